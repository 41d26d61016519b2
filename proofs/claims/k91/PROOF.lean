import PyProof.Rows.All
import Wide.All
import OpenK.AllK
import Wide.FinOn
import HandS.ForMost
import HandS.Walk
import HandS.Deep
import HandS.Flow
import HandS.Zip
import HandS.TupAny
import KE.KDictKeyed
import KE.KeyNested
import HandS.Wide
import HandS.Star
import HandS.Style
import KE.SortData
import KE.LtData
import HandS.TupSets
import HandS.IsInst
import KE.DataCmp
import KE.DataMinMax
import KE.DataFind
import HandS.Conv
import HandS.Words
import KE.GoesMore
import HandS.Defaults
import HandS.HeadHook2
import HandS.Head0
import HandS.Head1
import HandS.Head2
import HandS.HeadEnd
import HandS.HeadHook4
import KE.KDictList
import KE.KDictSum
import KE.KRevSl
import HandS.DictTup
import PyProof.ReprRoads
import HandS.Text
import PyProof.StrLawsOcc
import PyProof.SumWalkG
import HandS.ExcValue
import HandS.ExcOwn
import KE.KDictCopyH
import HandS.Ends
import PySem.Challenge.RW_driftsuntold_k91_across_whole_counts_of
set_option Elab.async false
set_option linter.all false
set_option autoImplicit false
namespace Mi
open PySem PySem.Spec PyProof.Rows L2

/-- values of the mirror -/
inductive D where
  | non
  | bl (b : Bool)
  | int (i : Int)
  | str (x : Str)
  | tup (ds : List D)
  | ref (n : Nat)

/-- what stands in the small heap: a list with its locks, a list that is only read, a dict with its locks, a list of three ints that nobody knows -/
inductive MO where
  | lst (lk : Nat) (ds : List D)
  | frz (ds : List D)
  | dct (lk : Nat) (kvs : List (D × D))
  | box (n : Nat)

inductive PTr where
  | e
  | nd (o : Option MO) (l r : PTr)

def PTr.get : PTr → Nat → Option MO
  | .e, _ => none
  | .nd o l r, i => bif Nat.beq i 0 then o else bif Nat.beq (i % 2) 1 then l.get (i / 2) else r.get (i / 2 - 1)

def PTr.top : PTr → Option MO
  | .e => none
  | .nd o _ _ => o
def PTr.lf : PTr → PTr
  | .e => .e
  | .nd _ l _ => l
def PTr.rg : PTr → PTr
  | .e => .e
  | .nd _ _ r => r

def PTr.set : Nat → PTr → Nat → MO → PTr
  | 0, t, _, o => .nd (some o) t.lf t.rg
  | f + 1, t, i, o => bif Nat.beq i 0 then .nd (some o) t.lf t.rg else bif Nat.beq (i % 2) 1 then .nd t.top (t.lf.set f (i / 2) o) t.rg else .nd t.top t.lf (t.rg.set f (i / 2 - 1) o)

theorem PTr.get_parts (t : PTr) (i : Nat) : t.get i = bif Nat.beq i 0 then t.top else bif Nat.beq (i % 2) 1 then t.lf.get (i / 2) else t.rg.get (i / 2 - 1) := by
  cases t with
  | e => cases Nat.beq i 0 <;> cases Nat.beq (i % 2) 1 <;> rfl
  | nd o l r => rfl

theorem PTr.get_set : ∀ (f : Nat) (t : PTr) (i j : Nat) (o : MO), i + 1 < 2 ^ (f + 1) → (t.set f i o).get j = if j = i then some o else t.get j
  | 0, t, i, j, o, h => by
    have hi : i = 0 := by simp at h; omega
    subst hi
    rw [PTr.set, PTr.get, PTr.get_parts t j]
    by_cases hj : j = 0
    · subst hj; rfl
    · rw [if_neg hj]
      have : Nat.beq j 0 = false := by cases j with | zero => exact absurd rfl hj | succ n => rfl
      simp [this]
  | f + 1, t, i, j, o, h => by
    have hp : 2 ^ (f + 1 + 1) = 2 * 2 ^ (f + 1) := by rw [Nat.pow_succ]; omega
    have bz : ∀ n : Nat, Nat.beq n 0 = decide (n = 0) := fun n => by cases n <;> rfl
    have b1 : ∀ n : Nat, Nat.beq n 1 = decide (n = 1) := fun n => by
      rw [Bool.eq_iff_iff, Nat.beq_eq, decide_eq_true_eq]
    rw [PTr.set]
    by_cases hi : i = 0
    · subst hi
      simp only [bz, decide_true, cond_true]
      rw [PTr.get, PTr.get_parts t j, bz, b1]
      by_cases hj : j = 0
      · subst hj; simp
      · simp [hj]
    · by_cases ho : i % 2 = 1
      · simp only [bz, b1, hi, ho, decide_true, decide_false, cond_true, cond_false]
        rw [PTr.get, PTr.get_parts t j, bz, b1, PTr.get_set f _ _ _ _ (by omega)]
        by_cases hj : j = 0
        · subst hj
          have : ¬ (0 = i) := fun q => hi q.symm
          simp [this]
        · by_cases hq : j % 2 = 1
          · by_cases e : j = i
            · subst e; simp [hj, hq]
            · have : ¬ (j / 2 = i / 2) := by omega
              simp [hj, hq, e, this]
          · have : ¬ (j = i) := fun q => hq (q ▸ ho)
            simp [hj, hq, this]
      · simp only [bz, b1, hi, ho, decide_true, decide_false, cond_true, cond_false]
        rw [PTr.get, PTr.get_parts t j, bz, b1, PTr.get_set f _ _ _ _ (by omega)]
        by_cases hj : j = 0
        · subst hj
          have : ¬ (0 = i) := fun q => hi q.symm
          simp [this]
        · by_cases hq : j % 2 = 1
          · have : ¬ (j = i) := fun q => ho (q ▸ hq)
            simp [hj, hq, this]
          · by_cases e : j = i
            · subst e; simp [hj, hq]
            · have : ¬ (j / 2 - 1 = i / 2 - 1) := by omega
              simp [hj, hq, e, this]

/-- the small heap: how many, and what -/
structure MH where
  n : Nat
  t : PTr
def MH.emp : MH := ⟨0, .e⟩
def MH.get (h : MH) (i : Nat) : Option MO := h.t.get i
def MH.put (h : MH) (i : Nat) (o : MO) : MH := ⟨h.n, h.t.set 17 i o⟩
def MH.new (h : MH) (o : MO) : MH := ⟨h.n + 1, h.t.set 17 h.n o⟩
def MH.cap : Nat := 131072
theorem MH.cap_lt {i : Nat} (hi : i < MH.cap) : i + 1 < 2 ^ (17 + 1) := by
  have e1 : (2 : Nat) ^ (17 + 1) = 262144 := by decide
  have e2 : MH.cap = 131072 := rfl
  omega
theorem MH.get_put {h : MH} {i j : Nat} {o : MO} (hi : i < MH.cap) : (h.put i o).get j = if j = i then some o else h.get j :=
  PTr.get_set 17 h.t i j o (MH.cap_lt hi)
theorem MH.get_new {h : MH} {j : Nat} {o : MO} (hi : h.n < MH.cap) : (h.new o).get j = if j = h.n then some o else h.get j :=
  PTr.get_set 17 h.t h.n j o (MH.cap_lt hi)

/-- results: a value and the heap; nothing known; a number drawn -/
inductive R (α : Type) where
  | ok (a : α) (h : MH)
  | err
  | drw (b : Nat) (k : Nat → R α)
def R.bind {α β : Type} : R α → (α → MH → R β) → R β
  | .ok a h, f => f a h
  | .err, _ => .err
  | .drw b k, f => .drw b fun i => (k i).bind f
def R.all {α : Type} (P : α → MH → Prop) : R α → Prop
  | .ok a h => P a h
  | .err => False
  | .drw b k => ∀ i, i < b → (k i).all P
theorem R.all_mono {α : Type} {P P' : α → MH → Prop} : ∀ {r : R α}, r.all P → (∀ a h, P a h → P' a h) → r.all P'
  | .ok _ _, h, m => m _ _ h
  | .err, h, _ => h
  | .drw _ _, h, m => fun i hi => R.all_mono (h i hi) m
theorem R.all_bind {α β : Type} {P : β → MH → Prop} {f : α → MH → R β} : ∀ {r : R α}, (r.bind f).all P ↔ r.all fun a h => (f a h).all P
  | .ok _ _ => Iff.rfl
  | .err => Iff.rfl
  | .drw _ _ => ⟨fun h i hi => R.all_bind.mp (h i hi), fun h i hi => R.all_bind.mpr (h i hi)⟩

/-- a tuple of the written part -/
def KTup (K : PySem.W.Frag) (a : Addr) (vs : List V) : Prop :=
  ∃ (o : Obj) (its : Array Value) (n : Nat), K.lookup a = some o ∧ o.cls = .type "tuple" ∧ o.dict = none ∧ o.data = .seq its n ∧ its.size ≤ sizeLine ∧ Vals vs its.toList
/-- a tuple, its object known to have no dict -/
def TupN (K : PySem.W.Frag) (H : Hp) (a : Addr) (vs : List V) : Prop := (∃ o, H a = some (.frz o (.tup vs)) ∧ o.dict = none) ∨ KTup K a vs
theorem TupN.sq {K : PySem.W.Frag} {H : Hp} {a : Addr} {vs : List V} (h : TupN K H a vs) : SqT K H a vs := by
  rcases h with ⟨o, e, _⟩ | ⟨o, its, n, h1, h2, _, h3⟩
  · exact .inl (.inr ⟨o, e⟩)
  · exact .inr ⟨o, its, n, h1, h2, h3⟩
mutual
inductive Rep (K : PySem.W.Frag) (H : Hp) (μ : Nat → Addr) (n : Nat) : D → V → Prop
  | non : Rep K H μ n .non .non
  | bl (b : Bool) : Rep K H μ n (.bl b) (.bl b)
  | int (i : Int) : Rep K H μ n (.int i) (.int i)
  | str (x : Str) : Rep K H μ n (.str x) (.str x)
  | tup {a : Addr} {vs : List V} {ds : List D} : TupN K H a vs → RepAll K H μ n ds vs → Rep K H μ n (.tup ds) (.ref a)
  | ref {i : Nat} : i < n → Rep K H μ n (.ref i) (.ref (μ i))
inductive RepAll (K : PySem.W.Frag) (H : Hp) (μ : Nat → Addr) (n : Nat) : List D → List V → Prop
  | nil : RepAll K H μ n [] []
  | cons {d : D} {v : V} {ds : List D} {vs : List V} : Rep K H μ n d v → RepAll K H μ n ds vs → RepAll K H μ n (d :: ds) (v :: vs)
end
section
variable {K : PySem.W.Frag} {H H' : Hp} {μ μ' : Nat → Addr} {n n' : Nat}
mutual
theorem Rep.mono (ht : ∀ a vs, TupN K H a vs → TupN K H' a vs) (hm : ∀ i, i < n → μ' i = μ i) (hn : n ≤ n') : ∀ (d : D) (v : V), Rep K H μ n d v → Rep K H' μ' n' d v
  | .non, _, h => by cases h; exact .non
  | .bl b, _, h => by cases h; exact .bl b
  | .int i, _, h => by cases h; exact .int i
  | .str x, _, h => by cases h; exact .str x
  | .tup ds, _, h => by
    cases h with
    | tup s r => exact .tup (ht _ _ s) (RepAll.mono ht hm hn ds _ r)
  | .ref i, _, h => by
    cases h with
    | ref hi => rw [← hm i hi]; exact .ref (Nat.lt_of_lt_of_le hi hn)
theorem RepAll.mono (ht : ∀ a vs, TupN K H a vs → TupN K H' a vs) (hm : ∀ i, i < n → μ' i = μ i) (hn : n ≤ n') : ∀ (ds : List D) (vs : List V), RepAll K H μ n ds vs → RepAll K H' μ' n' ds vs
  | [], _, h => by cases h; exact .nil
  | d :: ds, _, h => by
    cases h with
    | cons a b => exact .cons (Rep.mono ht hm hn d _ a) (RepAll.mono ht hm hn ds _ b)
end
end
theorem RepAll.length {K : PySem.W.Frag} {H : Hp} {μ : Nat → Addr} {n : Nat} : ∀ {ds : List D} {vs : List V}, RepAll K H μ n ds vs → ds.length = vs.length
  | [], _, h => by cases h; rfl
  | d :: ds, _, h => by
    cases h with
    | cons a b => rw [List.length_cons, List.length_cons, RepAll.length b]
theorem RepAll.get {K : PySem.W.Frag} {H : Hp} {μ : Nat → Addr} {n : Nat} : ∀ {ds : List D} {vs : List V} {i : Nat} {d : D}, RepAll K H μ n ds vs → ds[i]? = some d → ∃ v, vs[i]? = some v ∧ Rep K H μ n d v
  | [], _, i, d, _, e => by simp at e
  | _ :: _, _, 0, d, h, e => by
    cases h with
    | cons a b =>
      simp at e
      subst e
      exact ⟨_, rfl, a⟩
  | _ :: _, _, i + 1, d, h, e => by
    cases h with
    | cons a b =>
      obtain ⟨v, h1, h2⟩ := RepAll.get (i := i) b (by simpa using e)
      exact ⟨v, by simpa using h1, h2⟩
theorem RepAll.getV {K : PySem.W.Frag} {H : Hp} {μ : Nat → Addr} {n : Nat} {ds : List D} {vs : List V} {i : Nat} {v : V} (h : RepAll K H μ n ds vs) (e : vs[i]? = some v) : ∃ d, ds[i]? = some d ∧ Rep K H μ n d v := by
  obtain ⟨hi, _⟩ := List.getElem?_eq_some_iff.mp e
  have hl := h.length
  have hd : ds[i]? = some ds[i] := List.getElem?_eq_getElem (by omega)
  obtain ⟨v', e', r⟩ := h.get hd
  rw [e] at e'
  cases e'
  exact ⟨_, hd, r⟩
theorem RepAll.append {K : PySem.W.Frag} {H : Hp} {μ : Nat → Addr} {n : Nat} : ∀ {ds es : List D} {vs ws : List V}, RepAll K H μ n ds vs → RepAll K H μ n es ws → RepAll K H μ n (ds ++ es) (vs ++ ws)
  | [], _, _, _, h, h2 => by cases h; exact h2
  | _ :: _, _, _, _, h, h2 => by
    cases h with
    | cons a b => exact .cons a (RepAll.append b h2)
theorem RepAll.take {K : PySem.W.Frag} {H : Hp} {μ : Nat → Addr} {n : Nat} : ∀ {ds : List D} {vs : List V} (k : Nat), RepAll K H μ n ds vs → RepAll K H μ n (ds.take k) (vs.take k)
  | _, _, 0, _ => by simp; exact .nil
  | [], _, _ + 1, h => by cases h; exact .nil
  | _ :: _, _, k + 1, h => by
    cases h with
    | cons a b => exact .cons a (RepAll.take k b)
theorem RepAll.drop {K : PySem.W.Frag} {H : Hp} {μ : Nat → Addr} {n : Nat} : ∀ {ds : List D} {vs : List V} (k : Nat), RepAll K H μ n ds vs → RepAll K H μ n (ds.drop k) (vs.drop k)
  | _, _, 0, h => h
  | [], _, _ + 1, h => by cases h; exact .nil
  | _ :: _, _, k + 1, h => by
    cases h with
    | cons a b => exact RepAll.drop k b
theorem RepAll.set {K : PySem.W.Frag} {H : Hp} {μ : Nat → Addr} {n : Nat} {d : D} {v : V} (r : Rep K H μ n d v) : ∀ {ds : List D} {vs : List V} (k : Nat), RepAll K H μ n ds vs → RepAll K H μ n (ds.set k d) (vs.set k v)
  | [], _, _, h => by cases h; exact .nil
  | _ :: _, _, 0, h => by
    cases h with
    | cons a b => exact .cons r b
  | _ :: _, _, k + 1, h => by
    cases h with
    | cons a b => exact .cons a (RepAll.set r k b)
theorem RepAll.eraseIdx {K : PySem.W.Frag} {H : Hp} {μ : Nat → Addr} {n : Nat} : ∀ {ds : List D} {vs : List V} (k : Nat), RepAll K H μ n ds vs → RepAll K H μ n (ds.eraseIdx k) (vs.eraseIdx k)
  | [], _, _, h => by cases h; exact .nil
  | _ :: _, _, 0, h => by
    cases h with
    | cons a b => exact b
  | _ :: _, _, k + 1, h => by
    cases h with
    | cons a b => exact .cons a (RepAll.eraseIdx k b)
end Mi
set_option Elab.async false
set_option linter.all false
set_option autoImplicit false
namespace Mi
open PySem PySem.Spec PyProof.Rows L2

mutual
def D.key : D → Option NestedKey
  | .non => some .none
  | .bl _ => none
  | .int i => some (.num i)
  | .str x => some (.text x)
  | .tup ds => match D.keys ds with
    | some ks => some (.tup ks)
    | none => none
  | .ref _ => none
def D.keys : List D → Option (List NestedKey)
  | [] => some []
  | d :: ds => match D.key d with
    | some k => match D.keys ds with
      | some ks => some (k :: ks)
      | none => none
    | none => none
end

/-- a dict with keys of any depth -/
def DctO (P : Program) (w : World) (a : Addr) (xs : List (NestedKey × Addr × Value)) : HO :=
  .ext fun h => xs.length ≤ sizeLine ∧ (a == sysModules) = false ∧ ∃ o es ep, h.get? a = some o ∧ o.ExactDict ∧ o.data = .dict es ep ∧ es.toList = xs.map (entryOfKey (nestedKind P w)) ∧ (xs.map (·.1)).Nodup

structure KvOk (K : PySem.W.Frag) (H : Hp) (μ : Nat → Addr) (n : Nat) (p : D × D) (x : NestedKey × Addr × Value) : Prop where
  key : p.1.key = some x.1
  dep : x.1.depth ≤ 8
  kr : Rep K H μ n p.1 (.ref x.2.1)
  vr : ∃ v, RelV v x.2.2 ∧ Rep K H μ n p.2 v

def MO.mut : MO → Bool
  | .frz _ => false
  | _ => true
def MO.lk : MO → Nat
  | .lst k _ => k
  | .frz _ => 1
  | .dct k _ => k
  | .box _ => 0

/-- a list of the written part -/
def KLst (K : PySem.W.Frag) (a : Addr) (vs : List V) : Prop :=
  ∃ (o : Obj) (its : Array Value) (n : Nat), K.lookup a = some o ∧ o.cls = .type "list" ∧ o.dict = none ∧ o.data = .seq its n ∧ its.size ≤ sizeLine ∧ Vals vs its.toList

def ORep (P : Program) (w : World) (K : PySem.W.Frag) (H : Hp) (μ : Nat → Addr) (n : Nat) (a : Addr) : MO → Prop
  | .lst _ ds => ∃ vs, H a = some (.lst vs) ∧ RepAll K H μ n ds vs
  | .frz ds => ∃ vs, ((∃ o, H a = some (.frz o (.lst vs))) ∨ KLst K a vs) ∧ RepAll K H μ n ds vs
  | .dct _ kvs => ∃ xs, H a = some (DctO P w a xs) ∧ Paired (KvOk K H μ n) kvs xs
  | .box m => ∃ i j k : Int, H a = some (.lst [.int i, .int j, .int k]) ∧ 0 ≤ j ∧ j < 2 ^ 62 ∧ 0 ≤ k ∧ k ≤ m

structure HRep (P : Program) (w : World) (K : PySem.W.Frag) (H : Hp) (μ : Nat → Addr) (h : MH) : Prop where
  obj : ∀ i, i < h.n → ∃ o, h.get i = some o ∧ ORep P w K H μ h.n (μ i) o
  inj : ∀ i j oi oj, i < h.n → j < h.n → h.get i = some oi → h.get j = some oj → oi.mut = true → oj.mut = true → μ i = μ j → i = j
  cap : h.n ≤ MH.cap

/-- the small heap's places that may be written -/
def Own (h : MH) (μ : Nat → Addr) (a : Addr) : Prop := ∃ i o, i < h.n ∧ h.get i = some o ∧ o.mut = true ∧ μ i = a

/-- from one state to a later one -/
structure Post (P : Program) (w : World) (K : PySem.W.Frag) (H : Hp) (μ : Nat → Addr) (h : MH) (H' : Hp) (μ' : Nat → Addr) (h' : MH) : Prop where
  rep : HRep P w K H' μ' h'
  ext : ∀ a o, H a = some o → ¬ Own h μ a → H' a = some o
  mu : ∀ i, i < h.n → μ' i = μ i
  le : h.n ≤ h'.n
  new : ∀ i o, h.n ≤ i → i < h'.n → h'.get i = some o → o.mut = true → H (μ' i) = none
  lock : ∀ i o, i < h.n → h.get i = some o → o.lk ≠ 0 → h'.get i = some o
  kind : ∀ i o, i < h.n → h.get i = some o → ∃ o', h'.get i = some o' ∧ o'.mut = o.mut

section
variable {P : Program} {w : World} {K : PySem.W.Frag} {H H1 H2 H' : Hp} {μ μ1 μ2 μ' : Nat → Addr} {h h1 h2 h' : MH}

theorem HRep.own_ne (r : HRep P w K H μ h) {a : Addr} {u : HO} (e : H a = some u) (n1 : ∀ vs, u ≠ .lst vs) (n2 : ∀ φ, u ≠ .ext φ) : ¬ Own h μ a := by
  rintro ⟨i, o, hi, ho, hm, rfl⟩
  obtain ⟨o', e1, e2⟩ := r.obj i hi
  rw [ho] at e1
  cases e1
  cases o with
  | lst lk ds =>
    obtain ⟨vs, e3, _⟩ := e2
    rw [e] at e3
    exact n1 vs (Option.some.inj e3)
  | frz ds => cases hm
  | dct lk kvs =>
    obtain ⟨xs, e3, _⟩ := e2
    rw [e] at e3
    exact n2 _ (Option.some.inj e3)
  | box m =>
    obtain ⟨_, _, _, e3, _⟩ := e2
    rw [e] at e3
    exact n1 _ (Option.some.inj e3)

theorem Post.sq (p : Post P w K H μ h H' μ' h') (r : HRep P w K H μ h) : ∀ a vs, TupN K H a vs → TupN K H' a vs := by
  intro a vs s
  rcases s with ⟨o, e, n⟩ | s
  · exact .inl ⟨o, p.ext a _ e (r.own_ne e (fun _ q => nomatch q) fun _ q => nomatch q), n⟩
  · exact .inr s

theorem Post.rp (p : Post P w K H μ h H' μ' h') (r : HRep P w K H μ h) {d : D} {v : V} (x : Rep K H μ h.n d v) : Rep K H' μ' h'.n d v :=
  Rep.mono (p.sq r) p.mu p.le d v x
theorem Post.rps (p : Post P w K H μ h H' μ' h') (r : HRep P w K H μ h) {ds : List D} {vs : List V} (x : RepAll K H μ h.n ds vs) : RepAll K H' μ' h'.n ds vs :=
  RepAll.mono (p.sq r) p.mu p.le ds vs x

theorem Post.refl (r : HRep P w K H μ h) : Post P w K H μ h H μ h :=
  ⟨r, fun _ _ e _ => e, fun _ _ => rfl, Nat.le_refl _, fun i o a b => absurd (Nat.lt_of_lt_of_le b a) (Nat.lt_irrefl _), fun _ _ _ e _ => e, fun _ o _ e => ⟨o, e, rfl⟩⟩

theorem Post.own (p : Post P w K H μ h H1 μ1 h1) (r : HRep P w K H μ h) {a : Addr} (x : Own h μ a) : Own h1 μ1 a := by
  obtain ⟨i, o, hi, ho, hm, rfl⟩ := x
  obtain ⟨o', h1, h2⟩ := p.kind i o hi ho
  exact ⟨i, o', Nat.lt_of_lt_of_le hi p.le, h1, h2.trans hm, p.mu i hi⟩
/-- what is told of a place that is not the small heap's -/
theorem Post.own_new (p : Post P w K H μ h H1 μ1 h1) (r : HRep P w K H μ h) {a : Addr} {u : HO} (e : H a = some u) (n : ¬ Own h μ a) : ¬ Own h1 μ1 a := by
  rintro ⟨i, o, hi, ho, hm, rfl⟩
  by_cases hlt : i < h.n
  · obtain ⟨o0, e0, _⟩ := r.obj i hlt
    obtain ⟨o', e1, e2⟩ := p.kind i o0 hlt e0
    rw [ho] at e1
    cases e1
    exact n ⟨i, o0, hlt, e0, by rw [← e2]; exact hm, (p.mu i hlt).symm⟩
  · rw [p.new i o (Nat.le_of_not_lt hlt) hi ho hm] at e
    cases e

theorem Post.trans (r : HRep P w K H μ h) (p : Post P w K H μ h H1 μ1 h1) (q : Post P w K H1 μ1 h1 H2 μ2 h2) : Post P w K H μ h H2 μ2 h2 where
  rep := q.rep
  ext := fun a o e n => q.ext a o (p.ext a o e n) (p.own_new r e n)
  mu := fun i hi => (q.mu i (Nat.lt_of_lt_of_le hi p.le)).trans (p.mu i hi)
  le := Nat.le_trans p.le q.le
  new := fun i o a b e m => by
    by_cases hlt : i < h1.n
    · rw [q.mu i hlt]
      obtain ⟨o1, e1, _⟩ := p.rep.obj i hlt
      obtain ⟨o2, e2, e3⟩ := q.kind i o1 hlt e1
      rw [e] at e2
      cases e2
      exact p.new i o1 a hlt e1 (by rw [← e3]; exact m)
    · have hz := q.new i o (Nat.le_of_not_lt hlt) b e m
      cases hq : H (μ2 i) with
      | none => rfl
      | some u =>
        -- a tracked place of H is tracked in H1, or the small heap's own
        by_cases ho : Own h μ (μ2 i)
        · exfalso
          obtain ⟨j, oj, hj, ej, mj, aj⟩ := p.own r ho
          obtain ⟨oj', ej', rj⟩ := p.rep.obj j hj
          rw [ej] at ej'
          cases ej'
          cases oj with
          | lst lk ds =>
            obtain ⟨vs, e3, _⟩ := rj
            rw [aj, hz] at e3
            cases e3
          | frz ds => cases mj
          | dct lk kvs =>
            obtain ⟨xs, e3, _⟩ := rj
            rw [aj, hz] at e3
            cases e3
          | box m =>
            obtain ⟨_, _, _, e3, _⟩ := rj
            rw [aj, hz] at e3
            cases e3
        · rw [p.ext _ _ hq ho] at hz
          cases hz
  lock := fun i o hi e l => q.lock i o (Nat.lt_of_lt_of_le hi p.le) (p.lock i o hi e l) l
  kind := fun i o hi e => by
    obtain ⟨o1, e1, m1⟩ := p.kind i o hi e
    obtain ⟨o2, e2, m2⟩ := q.kind i o1 (Nat.lt_of_lt_of_le hi p.le) e1
    exact ⟨o2, e2, m2.trans m1⟩
end

abbrev Ev := List (Option D)
structure ERep (K : PySem.W.Frag) (H : Hp) (μ : Nat → Addr) (n : Nat) (env : Ev) (σ : L2.St) : Prop where
  len : env.length = σ.length
  at_ : ∀ (i : Nat) (d : D), env[i]? = some (some d) → ∃ v, σ[i]? = some (some v) ∧ Rep K H μ n d v
section
variable {P : Program} {w : World} {K : PySem.W.Frag} {H H' : Hp} {μ μ' : Nat → Addr} {h h' : MH} {env : Ev} {σ : L2.St}
theorem Post.er (p : Post P w K H μ h H' μ' h') (r : HRep P w K H μ h) (x : ERep K H μ h.n env σ) : ERep K H' μ' h'.n env σ :=
  ⟨x.len, fun i d e => let ⟨v, a, b⟩ := x.at_ i d e; ⟨v, a, p.rp r b⟩⟩
theorem ERep.set {n : Nat} {d : D} {v : V} (x : ERep K H μ n env σ) (r : Rep K H μ n d v) (i : Nat) : ERep K H μ n (env.set i (some d)) (σ.set i (some v)) := by
  refine ⟨by rw [List.length_set, List.length_set]; exact x.len, fun j e hj => ?_⟩
  by_cases hij : i = j
  · subst hij
    by_cases hl : i < env.length
    · rw [List.getElem?_set_self hl] at hj
      cases hj
      exact ⟨v, List.getElem?_set_self (by rw [← x.len]; exact hl), r⟩
    · rw [List.getElem?_eq_none (by rw [List.length_set]; omega)] at hj
      cases hj
  · rw [List.getElem?_set_ne hij] at hj
    obtain ⟨u, a, b⟩ := x.at_ j e hj
    exact ⟨u, (List.getElem?_set_ne hij).trans a, b⟩
theorem ERep.weak {n : Nat} {env' : Ev} (x : ERep K H μ n env σ) (hl : env'.length = env.length) (hw : ∀ (i : Nat) (d : D), env'[i]? = some (some d) → env[i]? = some (some d)) : ERep K H μ n env' σ :=
  ⟨hl.trans x.len, fun i d e => x.at_ i d (hw i d e)⟩
end

section
variable (P : Program) (w : World) (K : PySem.W.Frag)
/-- rp: how a result stands for what the model gives -/
def BR {α β : Type} (rp : Hp → (Nat → Addr) → Nat → α → β → Prop) (H : Hp) (μ : Nat → Addr) (h : MH) (r : R α) (Q : β → Hp → Prop) : Prop :=
  r.all fun a h' => ∀ H' μ' b, Post P w K H μ h H' μ' h' → rp H' μ' h'.n a b → Q b H'
end
abbrev rpD (K : PySem.W.Frag) : Hp → (Nat → Addr) → Nat → D → V → Prop := fun H μ n d v => Rep K H μ n d v
abbrev rpL (K : PySem.W.Frag) : Hp → (Nat → Addr) → Nat → List D → List V → Prop := fun H μ n d v => RepAll K H μ n d v
abbrev rpB : Hp → (Nat → Addr) → Nat → Bool → Bool → Prop := fun _ _ _ a b => a = b
abbrev rpU : Hp → (Nat → Addr) → Nat → Unit → Unit → Prop := fun _ _ _ _ _ => True
section
variable {P : Program} {w : World} {K : PySem.W.Frag} {H H1 : Hp} {μ μ1 : Nat → Addr} {h h1 : MH} {α α' β β' : Type} {rp : Hp → (Nat → Addr) → Nat → α → β → Prop} {rp' : Hp → (Nat → Addr) → Nat → α' → β' → Prop}
theorem BR.mono {r : R α} {Q Q' : β → Hp → Prop} (x : BR P w K rp H μ h r Q) (m : ∀ b H', Q b H' → Q' b H') : BR P w K rp H μ h r Q' :=
  R.all_mono x fun a h' q H' μ' b p e => m _ _ (q H' μ' b p e)
/-- one thing behind another -/
theorem BR.bind (hr : HRep P w K H μ h) {r : R α} {f : α → MH → R α'} {Q : β' → Hp → Prop} (x : BR P w K rp' H μ h (r.bind f) Q) :
    BR P w K rp H μ h r fun b H1 => ∃ a μ1 h1, Post P w K H μ h H1 μ1 h1 ∧ rp H1 μ1 h1.n a b ∧ BR P w K rp' H1 μ1 h1 (f a h1) Q := by
  refine R.all_mono (R.all_bind.mp x) fun a h1 q H1 μ1 b p e => ⟨a, μ1, h1, p, e, ?_⟩
  exact R.all_mono q fun c h2 q2 H2 μ2 d p2 e2 => q2 H2 μ2 d (p.trans hr p2) e2
theorem BR.pure (hr : HRep P w K H μ h) {a : α} {b : β} {Q : β → Hp → Prop} (x : BR P w K rp H μ h (.ok a h) Q) (e : rp H μ h.n a b) : Q b H := x H μ b (Post.refl hr) e
end

def mxE (X : Cx) (e : Expr) : TE := fun σ H Q => ∀ (pins : List (Addr × Obj)) (s : Shared), Inv X pins σ H s → wpAny (model X.prog X.w) X.A (eval e X.env) (EP X pins σ Q) X.xe s
def mxT (X : Cx) (e : Expr) : TT := fun σ H Q => ∀ (pins : List (Addr × Obj)) (s : Shared), Inv X pins σ H s → wpAny (model X.prog X.w) X.A (isTrue e X.env (eval e X.env)) (TP X pins σ Q) X.xe s
def mxA (X : Cx) (es : List Expr) : TA := fun σ H Q => ∀ (pos : Pos) (pins : List (Addr × Obj)) (s : Shared), Inv X pins σ H s → wpAny (model X.prog X.w) X.A (spliced (backTo pos (starEach es X.env))) (AP X pins σ Q) X.xe s
def mxS (X : Cx) (st : Stmt) : TS := fun D σ H => ∀ (pins : List (Addr × Obj)) (s : Shared), Inv X pins σ H s → wpAny (model X.prog X.w) X.A (exec st X.env) (SP X pins D) X.xe s
def mxSs (X : Cx) (st : List Stmt) : TS := fun D σ H => ∀ (pins : List (Addr × Obj)) (s : Shared), Inv X pins σ H s → wpAny (model X.prog X.w) X.A (execs st X.env) (SP X pins D) X.xe s
def mxG (X : Cx) (tg : Expr) : TG := fun v σ H Q => ∀ (pins : List (Addr × Obj)) (s : Shared) (u : Value), Inv X pins σ H s → RelV v u → wpAny (model X.prog X.w) X.A (assign tg X.env u) (fun _ s' => ∃ σ' H', Inv X pins σ' H' s' ∧ Q σ' H') X.xe s
section
variable {X : Cx} {e : Expr} {es : List Expr} {st : Stmt} {sts : List Stmt}
theorem peX : PE X e (mxE X e) := ⟨fun pins s _ _ _ I h => h pins s I⟩
theorem ptX : PT X e (mxT X e) := ⟨fun pins s _ _ _ I h => h pins s I⟩
theorem paX : PA X es (mxA X es) := ⟨fun pos pins s _ _ _ I h => h pos pins s I⟩
theorem psX : PS X st (mxS X st) := ⟨fun pins s _ _ _ I h => h pins s I⟩
theorem pssX : PSs X sts (mxSs X sts) := ⟨fun pins s _ _ _ I h => h pins s I⟩
theorem pgX : PG X e (mxG X e) := ⟨fun pins s _ _ _ u _ I r h => h pins s u I r⟩
theorem mxE.of {t : TE} (h : PE X e t) {σ : L2.St} {H : Hp} {Q : VK} (x : t σ H Q) : mxE X e σ H Q := fun pins s I => h.run pins s σ H Q I x
theorem mxT.of {t : TT} (h : PT X e t) {σ : L2.St} {H : Hp} {Q : Bool → Hp → Prop} (x : t σ H Q) : mxT X e σ H Q := fun pins s I => h.run pins s σ H Q I x
theorem mxA.of {t : TA} (h : PA X es t) {σ : L2.St} {H : Hp} {Q : List V → Hp → Prop} (x : t σ H Q) : mxA X es σ H Q := fun pos pins s I => h.run pos pins s σ H Q I x
theorem mxS.of {t : TS} (h : PS X st t) {σ : L2.St} {H : Hp} {D : Ends} (x : t D σ H) : mxS X st D σ H := fun pins s I => h.run pins s σ H D I x
theorem mxSs.of {t : TS} (h : PSs X sts t) {σ : L2.St} {H : Hp} {D : Ends} (x : t D σ H) : mxSs X sts D σ H := fun pins s I => h.run pins s σ H D I x
theorem mxG.of {t : TG} (h : PG X e t) {v : V} {σ : L2.St} {H : Hp} {Q : L2.St → Hp → Prop} (x : t v σ H Q) : mxG X e v σ H Q := fun pins s u I r => h.run pins s σ H v u Q I r x
theorem mxE.mono {σ : L2.St} {H : Hp} {Q Q' : VK} (x : mxE X e σ H Q) (m : ∀ v H', Q v H' → Q' v H') : mxE X e σ H Q' := fun pins s I =>
  wpAny_mono (x pins s I) (fun _ _ ⟨v, H', a, b, q⟩ => ⟨v, H', a, b, m _ _ q⟩) fun _ _ z => z
theorem mxT.mono {σ : L2.St} {H : Hp} {Q Q' : Bool → Hp → Prop} (x : mxT X e σ H Q) (m : ∀ v H', Q v H' → Q' v H') : mxT X e σ H Q' := fun pins s I =>
  wpAny_mono (x pins s I) (fun _ _ ⟨H', a, q⟩ => ⟨H', a, m _ _ q⟩) fun _ _ z => z
end

/-- the mirrors of expressions, tests, arguments, statements, targets -/
abbrev ME := Ev → MH → R D
abbrev MT := Ev → MH → R Bool
abbrev MA := Ev → MH → R (List D)
inductive Fl where
  | nx (e : Ev) | rt (d : D) | bk (e : Ev) | ct (e : Ev)
abbrev MS := Ev → MH → R Fl
abbrev MG := D → Ev → MH → R Ev

def ImplE (X : Cx) (e : Expr) (m : ME) : Prop := ∀ env h σ H μ Q, HRep X.prog X.w X.K H μ h → ERep X.K H μ h.n env σ → BR X.prog X.w X.K (rpD X.K) H μ h (m env h) Q → mxE X e σ H Q
def ImplT (X : Cx) (e : Expr) (m : MT) : Prop := ∀ env h σ H μ Q, HRep X.prog X.w X.K H μ h → ERep X.K H μ h.n env σ → BR X.prog X.w X.K rpB H μ h (m env h) Q → mxT X e σ H Q
def ImplA (X : Cx) (es : List Expr) (m : MA) : Prop := ∀ env h σ H μ Q, HRep X.prog X.w X.K H μ h → ERep X.K H μ h.n env σ → BR X.prog X.w X.K (rpL X.K) H μ h (m env h) Q → mxA X es σ H Q
/-- a flow of the layer -/
inductive Fv where
  | nx (σ : L2.St) | rt (v : V) | bk (σ : L2.St) | ct (σ : L2.St)
def rpF (K : PySem.W.Frag) (H : Hp) (μ : Nat → Addr) (n : Nat) : Fl → Fv → Prop
  | .nx e, .nx σ => ERep K H μ n e σ
  | .rt d, .rt v => Rep K H μ n d v
  | .bk e, .bk σ => ERep K H μ n e σ
  | .ct e, .ct σ => ERep K H μ n e σ
  | _, _ => False
def EQ (E : Ends) : Fv → Hp → Prop
  | .nx σ, H => E.nx σ H
  | .rt v, H => E.rt v H
  | .bk σ, H => E.bk σ H
  | .ct σ, H => E.ct σ H
abbrev rpE (K : PySem.W.Frag) : Hp → (Nat → Addr) → Nat → Ev → L2.St → Prop := fun H μ n e σ => ERep K H μ n e σ
def ImplS (X : Cx) (st : Stmt) (m : MS) : Prop := ∀ env h σ H μ E, HRep X.prog X.w X.K H μ h → ERep X.K H μ h.n env σ → BR X.prog X.w X.K (rpF X.K) H μ h (m env h) (EQ E) → mxS X st E σ H
def ImplSs (X : Cx) (st : List Stmt) (m : MS) : Prop := ∀ env h σ H μ E, HRep X.prog X.w X.K H μ h → ERep X.K H μ h.n env σ → BR X.prog X.w X.K (rpF X.K) H μ h (m env h) (EQ E) → mxSs X st E σ H
def ImplG (X : Cx) (tg : Expr) (m : MG) : Prop := ∀ d v env h σ H μ Q, HRep X.prog X.w X.K H μ h → ERep X.K H μ h.n env σ → Rep X.K H μ h.n d v →
  BR X.prog X.w X.K (rpE X.K) H μ h (m d env h) Q → mxG X tg v σ H Q
end Mi
set_option Elab.async false
set_option linter.all false
set_option autoImplicit false
namespace Mi
open PySem PySem.Spec PyProof.Rows L2

section
variable {X : Cx} {e a b c : Expr} {es rest : List Expr} {m ma mb mc : ME} {pos : Pos}
/-- e's mirror is run, then f -/
theorem ImplE.seq (he : ImplE X e m) {env : Ev} {h : MH} {σ : L2.St} {H : Hp} {μ : Nat → Addr} (hr : HRep X.prog X.w X.K H μ h) (er : ERep X.K H μ h.n env σ)
    {α β : Type} {rp : Hp → (Nat → Addr) → Nat → α → β → Prop} {f : D → MH → R α} {Q : β → Hp → Prop} (br : BR X.prog X.w X.K rp H μ h ((m env h).bind f) Q) {Q' : VK}
    (k : ∀ v H1 d μ1 h1, HRep X.prog X.w X.K H1 μ1 h1 → ERep X.K H1 μ1 h1.n env σ → Post X.prog X.w X.K H μ h H1 μ1 h1 → Rep X.K H1 μ1 h1.n d v → BR X.prog X.w X.K rp H1 μ1 h1 (f d h1) Q → Q' v H1) :
    mxE X e σ H Q' :=
  (he env h σ H μ _ hr er (BR.bind (rp := rpD X.K) hr br)).mono fun v H1 ⟨d, μ1, h1, p, r, q⟩ => k v H1 d μ1 h1 p.rep (p.er hr er) p r q
theorem ImplT.seq {m : MT} (he : ImplT X e m) {env : Ev} {h : MH} {σ : L2.St} {H : Hp} {μ : Nat → Addr} (hr : HRep X.prog X.w X.K H μ h) (er : ERep X.K H μ h.n env σ)
    {α β : Type} {rp : Hp → (Nat → Addr) → Nat → α → β → Prop} {f : Bool → MH → R α} {Q : β → Hp → Prop} (br : BR X.prog X.w X.K rp H μ h ((m env h).bind f) Q) {Q' : Bool → Hp → Prop}
    (k : ∀ d H1 μ1 h1, HRep X.prog X.w X.K H1 μ1 h1 → ERep X.K H1 μ1 h1.n env σ → Post X.prog X.w X.K H μ h H1 μ1 h1 → BR X.prog X.w X.K rp H1 μ1 h1 (f d h1) Q → Q' d H1) :
    mxT X e σ H Q' :=
  (he env h σ H μ _ hr er (BR.bind (rp := rpB) hr br)).mono fun v H1 ⟨d, μ1, h1, p, r, q⟩ => by
    have r : d = v := r
    subst r
    exact k d H1 μ1 h1 p.rep (p.er hr er) p q

def nthE : Ev → Nat → Option D
  | [], _ => none
  | d :: _, 0 => d
  | _ :: r, i + 1 => nthE r i
theorem nthE_eq : ∀ (env : Ev) (i : Nat) (d : D), nthE env i = some d → env[i]? = some (some d)
  | [], _, _, h => nomatch h
  | x :: _, 0, d, h => by simp only [nthE] at h; rw [h]; rfl
  | _ :: r, i + 1, d, h => by simp only [nthE] at h; simpa using nthE_eq r i d h
def mVar (i : Nat) : ME := fun env h => match nthE env i with
  | some d => .ok d h
  | none => .err
theorem ie_var {i : Nat} (he : PE X e (tVar i)) : ImplE X e (mVar i) := by
  intro env h σ H μ Q hr er br
  unfold mVar at br
  cases q : nthE env i with
  | none => rw [q] at br; exact False.elim br
  | some d =>
    rw [q] at br
    obtain ⟨v, e1, r⟩ := er.at_ i d (nthE_eq env i d q)
    exact mxE.of he ⟨v, e1, br.pure hr r⟩
def mC (d : D) : ME := fun _ h => .ok d h
theorem ie_int {i : Int} {k : Nat} : ImplE X (.Constant (.int i) k pos) (mC (.int i)) := by
  intro env h σ H μ Q hr er br
  exact mxE.of (pe_int (X := X)) (br.pure hr (.int i))
theorem ie_bl {i : Bool} {k : Nat} : ImplE X (.Constant (.bool i) k pos) (mC (.bl i)) := by
  intro env h σ H μ Q hr er br
  exact mxE.of (pe_bl (X := X)) (br.pure hr (.bl i))
theorem ie_non {k : Nat} : ImplE X (.Constant .none k pos) (mC .non) := by
  intro env h σ H μ Q hr er br
  exact mxE.of (pe_non (X := X)) (br.pure hr .non)

abbrev F2 := D → D → MH → R D
def Op2 (X : Cx) (g : Value → Value → Sem Value) (f : F2) : Prop :=
  OpR X g fun v u H Q => ∃ x y h μ, HRep X.prog X.w X.K H μ h ∧ Rep X.K H μ h.n x v ∧ Rep X.K H μ h.n y u ∧ BR X.prog X.w X.K (rpD X.K) H μ h (f x y h) Q
theorem Op2.of {g : Value → Value → Sem Value} {f : F2} {r : R2} (ho : OpR X g r)
    (k : ∀ x y h μ v u H Q, HRep X.prog X.w X.K H μ h → Rep X.K H μ h.n x v → Rep X.K H μ h.n y u → BR X.prog X.w X.K (rpD X.K) H μ h (f x y h) Q → r v u H Q) : Op2 X g f := by
  intro pins s σ H v u vv uu Q I rv ru h
  obtain ⟨x, y, h, μ, hr, rx, ry, br⟩ := h
  exact ho pins s σ H v u vv uu Q I rv ru (k x y h μ v u H Q hr rx ry br)
def mBin (f : F2) (ma mb : ME) : ME := fun env h => (ma env h).bind fun x h1 => (mb env h1).bind fun y h2 => f x y h2
theorem two (ha : ImplE X a ma) (hb : ImplE X b mb) {env : Ev} {h : MH} {σ : L2.St} {H : Hp} {μ : Nat → Addr} (hr : HRep X.prog X.w X.K H μ h) (er : ERep X.K H μ h.n env σ)
    {α β : Type} {rp : Hp → (Nat → Addr) → Nat → α → β → Prop} {f : D → D → MH → R α} {Q : β → Hp → Prop} (br : BR X.prog X.w X.K rp H μ h ((ma env h).bind fun x h1 => (mb env h1).bind fun y h2 => f x y h2) Q) {Q' : V → VK}
    (k : ∀ v u H2 x y μ2 h2, HRep X.prog X.w X.K H2 μ2 h2 → ERep X.K H2 μ2 h2.n env σ → Post X.prog X.w X.K H μ h H2 μ2 h2 → Rep X.K H2 μ2 h2.n x v → Rep X.K H2 μ2 h2.n y u → BR X.prog X.w X.K rp H2 μ2 h2 (f x y h2) Q → Q' v u H2) :
    mxE X a σ H fun v H1 => mxE X b σ H1 fun u H2 => Q' v u H2 := by
  refine ha.seq hr er br fun v H1 x μ1 h1 hr1 er1 p1 r1 br1 => ?_
  refine hb.seq hr1 er1 br1 fun u H2 y μ2 h2 hr2 er2 p2 r2 br2 => ?_
  exact k v u H2 x y μ2 h2 hr2 er2 (p1.trans hr p2) (p2.rp hr1 r1) r2 br2
theorem ie_bin {op : Operator} {f : F2} (ho : Op2 X (binaryOp op) f) (ha : ImplE X a ma) (hb : ImplE X b mb) : ImplE X (.BinOp a op b pos) (mBin f ma mb) := by
  intro env h σ H μ Q hr er br
  exact mxE.of (pe_op ho peX peX) (two (Q' := fun v u H2 => ∃ x y h μ, HRep X.prog X.w X.K H2 μ h ∧ Rep X.K H2 μ h.n x v ∧ Rep X.K H2 μ h.n y u ∧ BR X.prog X.w X.K (rpD X.K) H2 μ h (f x y h) Q) ha hb hr er br
    fun v u H2 x y μ2 h2 hr2 _ _ rx ry br2 => ⟨x, y, h2, μ2, hr2, rx, ry, br2⟩)
/-- one operand -/
abbrev F1 := D → MH → R D
def mUn (f : F1) (ma : ME) : ME := fun env h => (ma env h).bind fun x h1 => f x h1
theorem ie_un {op : UnaryOp} {f : F1} {r : V → Hp → VK → Prop} (ho : UnR X (unaryOp op) r) (k : ∀ x h μ v H Q, HRep X.prog X.w X.K H μ h → Rep X.K H μ h.n x v → BR X.prog X.w X.K (rpD X.K) H μ h (f x h) Q → r v H Q)
    (ha : ImplE X a ma) : ImplE X (.UnaryOp op a pos) (mUn f ma) := by
  intro env h σ H μ Q hr er br
  refine mxE.of (pe_un ho peX) ?_
  show mxE X a σ H fun x H1 => r x H1 Q
  exact ha.seq hr er br fun v H1 d μ1 h1 hr1 _ _ rd br1 => k d h1 μ1 v H1 Q hr1 rd br1
def negD : F1 := fun x h => match x with
  | .int i => .ok (.int (-i)) h
  | _ => .err
theorem ie_neg (ha : ImplE X a ma) : ImplE X (.UnaryOp .USub a pos) (mUn negD ma) := by
  refine ie_un un_neg (fun x h μ v H Q hr rx br => ?_) ha
  cases x <;> try exact False.elim br
  cases rx
  exact ⟨_, rfl, br.pure hr (.int _)⟩
end

section
variable {P : Program} {w : World} {K : PySem.W.Frag} {H : Hp} {μ : Nat → Addr} {h : MH} {p : Addr}
theorem own_of_none (hr : HRep P w K H μ h) (n : H p = none) : ¬ Own h μ p := by
  rintro ⟨i, o, hi, ho, hm, rfl⟩
  obtain ⟨o', e1, e2⟩ := hr.obj i hi
  rw [ho] at e1
  cases e1
  cases o with
  | lst lk ds => obtain ⟨vs, e3, _⟩ := e2; rw [n] at e3; cases e3
  | frz ds => cases hm
  | dct lk kvs => obtain ⟨xs, e3, _⟩ := e2; rw [n] at e3; cases e3
  | box m => obtain ⟨_, _, _, e3, _⟩ := e2; rw [n] at e3; cases e3
/-- the layer's heap alone has something new (a tuple) -/
theorem Post.newH {u : HO} (hr : HRep P w K H μ h) (n : H p = none) : Post P w K H μ h (upd H p u) μ h := by
  have sq : ∀ a vs, TupN K H a vs → TupN K (upd H p u) a vs := by
    intro a vs s
    rcases s with ⟨o, s, d⟩ | s
    · exact .inl ⟨o, by rw [upd_ne (ne_of_none s n)]; exact s, d⟩
    · exact .inr s
  have rps : ∀ ds vs, RepAll K H μ h.n ds vs → RepAll K (upd H p u) μ h.n ds vs := fun ds vs => RepAll.mono sq (fun _ _ => rfl) (Nat.le_refl _) ds vs
  have rp : ∀ d v, Rep K H μ h.n d v → Rep K (upd H p u) μ h.n d v := fun d v => Rep.mono sq (fun _ _ => rfl) (Nat.le_refl _) d v
  refine ⟨⟨fun i hi => ?_, hr.inj, hr.cap⟩, fun a o e _ => by rw [upd_ne (ne_of_none e n)]; exact e, fun _ _ => rfl, Nat.le_refl _, fun i o x y => absurd (Nat.lt_of_lt_of_le y x) (Nat.lt_irrefl _), fun _ _ _ e _ => e, fun _ o _ e => ⟨o, e, rfl⟩⟩
  obtain ⟨o, e1, e2⟩ := hr.obj i hi
  refine ⟨o, e1, ?_⟩
  cases o with
  | lst lk ds => obtain ⟨vs, e3, e4⟩ := e2; exact ⟨vs, by rw [upd_ne (ne_of_none e3 n)]; exact e3, rps _ _ e4⟩
  | frz ds =>
    obtain ⟨vs, e3, e4⟩ := e2
    refine ⟨vs, ?_, rps _ _ e4⟩
    rcases e3 with ⟨o, e3⟩ | e3
    · exact .inl ⟨o, by rw [upd_ne (ne_of_none e3 n)]; exact e3⟩
    · exact .inr e3
  | dct lk kvs =>
    obtain ⟨xs, e3, e4⟩ := e2
    exact ⟨xs, by rw [upd_ne (ne_of_none e3 n)]; exact e3, Paired.mapP e4 fun q x k => ⟨k.key, k.dep, rp _ _ k.kr, let ⟨v, r1, r2⟩ := k.vr; ⟨v, r1, rp _ _ r2⟩⟩⟩
  | box m => obtain ⟨i1, i2, i3, e3, e5⟩ := e2; exact ⟨i1, i2, i3, by rw [upd_ne (ne_of_none e3 n)]; exact e3, e5⟩
/-- a new tuple -/
theorem newTup {ds : List D} {vs : List V} (hr : HRep P w K H μ h) (r : RepAll K H μ h.n ds vs) (n : H p = none) {Q : VK} (br : BR P w K (rpD K) H μ h (.ok (.tup ds) h) Q) {o : Obj} (hd : o.dict = none) : Q (.ref p) (upd H p (.frz o (.tup vs))) := by
  have po : Post P w K H μ h (upd H p (.frz o (.tup vs))) μ h := Post.newH hr n
  exact br _ μ _ po (.tup (.inl ⟨o, upd_same, hd⟩) (po.rps hr r))
/-- a new object of the small heap -/
def newM (o : MO) (h : MH) : R D := bif Nat.blt h.n MH.cap then .ok (.ref h.n) (h.new o) else .err
def muN (μ : Nat → Addr) (n : Nat) (p : Addr) : Nat → Addr := fun i => if i = n then p else μ i
theorem Post.newO {u : HO} {o : MO} (hr : HRep P w K H μ h) (hm : o.mut = true) (hc : h.n < MH.cap) (n : H p = none) (or_ : ORep P w K (upd H p u) (muN μ h.n p) (h.n + 1) p o) :
    Post P w K H μ h (upd H p u) (muN μ h.n p) (h.new o) := by
  have sq : ∀ a vs, TupN K H a vs → TupN K (upd H p u) a vs := by
    intro a vs s
    rcases s with ⟨o, s, d⟩ | s
    · exact .inl ⟨o, by rw [upd_ne (ne_of_none s n)]; exact s, d⟩
    · exact .inr s
  have mu : ∀ i, i < h.n → muN μ h.n p i = μ i := fun i hi => if_neg (Nat.ne_of_lt hi)
  have rps : ∀ ds vs, RepAll K H μ h.n ds vs → RepAll K (upd H p u) (muN μ h.n p) (h.n + 1) ds vs := fun ds vs => RepAll.mono sq mu (Nat.le_succ _) ds vs
  have rp : ∀ d v, Rep K H μ h.n d v → Rep K (upd H p u) (muN μ h.n p) (h.n + 1) d v := fun d v => Rep.mono sq mu (Nat.le_succ _) d v
  have old : ∀ i, i < h.n → (h.new o).get i = h.get i := fun i hi => by rw [MH.get_new hc, if_neg (Nat.ne_of_lt hi)]
  have last : (h.new o).get h.n = some o := by rw [MH.get_new hc, if_pos rfl]
  have nm : ∀ i oi, i < h.n → h.get i = some oi → oi.mut = true → μ i ≠ p := fun i oi hi e m z => by
    refine own_of_none hr n ⟨i, oi, hi, e, m, z⟩
  refine ⟨⟨fun i hi => ?_, fun i j oi oj hi hj ei ej mi mj q => ?_, by show h.n + 1 ≤ MH.cap; omega⟩, fun a o e _ => by rw [upd_ne (ne_of_none e n)]; exact e, mu, Nat.le_succ _, fun i o' x y e m => ?_, fun i o' hi e _ => (old i hi).trans e, fun i o' hi e => ⟨o', (old i hi).trans e, rfl⟩⟩
  · have hi : i < h.n + 1 := hi
    by_cases hz : i = h.n
    · subst hz
      refine ⟨o, last, ?_⟩
      have e : muN μ h.n p h.n = p := if_pos rfl
      rw [e]
      exact or_
    · have hlt : i < h.n := by omega
      obtain ⟨o1, e1, e2⟩ := hr.obj i hlt
      refine ⟨o1, (old i hlt).trans e1, ?_⟩
      rw [mu i hlt]
      cases o1 with
      | lst lk ds => obtain ⟨vs, e3, e4⟩ := e2; exact ⟨vs, by rw [upd_ne (ne_of_none e3 n)]; exact e3, rps _ _ e4⟩
      | frz ds =>
        obtain ⟨vs, e3, e4⟩ := e2
        refine ⟨vs, ?_, rps _ _ e4⟩
        rcases e3 with ⟨o, e3⟩ | e3
        · exact .inl ⟨o, by rw [upd_ne (ne_of_none e3 n)]; exact e3⟩
        · exact .inr e3
      | dct lk kvs =>
        obtain ⟨xs, e3, e4⟩ := e2
        exact ⟨xs, by rw [upd_ne (ne_of_none e3 n)]; exact e3, Paired.mapP e4 fun q x k => ⟨k.key, k.dep, rp _ _ k.kr, let ⟨v, r1, r2⟩ := k.vr; ⟨v, r1, rp _ _ r2⟩⟩⟩
      | box m => obtain ⟨i1, i2, i3, e3, e5⟩ := e2; exact ⟨i1, i2, i3, by rw [upd_ne (ne_of_none e3 n)]; exact e3, e5⟩
  · have hi : i < h.n + 1 := hi
    have hj : j < h.n + 1 := hj
    by_cases hi' : i = h.n
    · by_cases hj' : j = h.n
      · rw [hi', hj']
      · have hjl : j < h.n := by omega
        rw [mu j hjl, hi', show muN μ h.n p h.n = p from if_pos rfl] at q
        exact absurd q.symm (nm j oj hjl ((old j hjl).symm.trans ej) mj)
    · have hil : i < h.n := by omega
      by_cases hj' : j = h.n
      · rw [mu i hil, hj', show muN μ h.n p h.n = p from if_pos rfl] at q
        exact absurd q (nm i oi hil ((old i hil).symm.trans ei) mi)
      · have hjl : j < h.n := by omega
        rw [mu i hil, mu j hjl] at q
        exact hr.inj i j oi oj hil hjl ((old i hil).symm.trans ei) ((old j hjl).symm.trans ej) mi mj q
  · have y : i < h.n + 1 := y
    have hz : i = h.n := by omega
    rw [hz, show muN μ h.n p h.n = p from if_pos rfl]
    exact n
theorem newM_lt {o : MO} {P' : D → MH → Prop} (x : (newM o h).all P') : h.n < MH.cap ∧ P' (.ref h.n) (h.new o) := by
  unfold newM at x
  cases q : Nat.blt h.n MH.cap with
  | false => rw [q] at x; exact False.elim x
  | true =>
    rw [q] at x
    exact ⟨Nat.blt_eq.mp q, x⟩
/-- a new list -/
theorem newLst {ds : List D} {vs : List V} (hr : HRep P w K H μ h) (r : RepAll K H μ h.n ds vs) (n : H p = none) {Q : VK} (br : BR P w K (rpD K) H μ h (newM (.lst 0 ds) h) Q) : Q (.ref p) (upd H p (.lst vs)) := by
  obtain ⟨hc, br⟩ := newM_lt br
  have mu : ∀ i, i < h.n → muN μ h.n p i = μ i := fun i hi => if_neg (Nat.ne_of_lt hi)
  have sq : ∀ a ws, TupN K H a ws → TupN K (upd H p (.lst vs)) a ws := by
    intro a ws s
    rcases s with ⟨o, s, d⟩ | s
    · exact .inl ⟨o, by rw [upd_ne (ne_of_none s n)]; exact s, d⟩
    · exact .inr s
  have po : Post P w K H μ h (upd H p (.lst vs)) (muN μ h.n p) (h.new (.lst 0 ds)) := Post.newO hr rfl hc n ⟨vs, upd_same, RepAll.mono sq mu (Nat.le_succ _) ds vs r⟩
  have e : V.ref p = V.ref (muN μ h.n p h.n) := by rw [show muN μ h.n p h.n = p from if_pos rfl]
  rw [e]
  exact br _ _ _ po (.ref (Nat.lt_succ_self _))
end
end Mi
set_option Elab.async false
set_option linter.all false
set_option autoImplicit false
set_option maxRecDepth 100000
namespace Ms
open PySem PySem.W PySem.SeqAt PyProof.Rows PySem.Calls

section
variable {prog : Program} {w : World} {A : Around} {s : Shared}

theorem callLtTup {E : Value → Shared → Prop} {l b : Addr} {us vs : Array Value} {e r : Nat → Bool} {Q : Value → Shared → Prop} (hl : s.heap.IsTuple l us) (hb : s.heap.IsTuple b vs)
    (he : ∀ j (h1 : j < us.size) (h2 : j < vs.size), EqAt A.in1 s us[j] vs[j] (e j)) (hr : ∀ j (h1 : j < us.size) (h2 : j < vs.size), e j = false → RcLt A.in1 s us[j] vs[j] (r j))
    (q : Q (.bool (firstLt e r (decide (us.size < vs.size)) (List.range (min us.size vs.size)))) s) : wpAny (model prog w) A (call (.builtin "tuple.__lt__") [.ref l, .ref b]) Q E s := by
  obtain ⟨⟨c1, d1, dt1, sl1⟩, o1, k1, n1, t1⟩ := id hl
  obtain ⟨⟨c2, d2, dt2, sl2⟩, o2, k2, n2, t2⟩ := id hb
  simp only at k1 t1 k2 t2
  subst k1 t1 k2 t2
  exact call_meets F.slot_tuple_lt ⟨_, o1, rfl⟩ F.entry_tuple_lt (F.args_tuple_lt_2 _ _) (tuple_ltAt l b us vs n1 n2 d1 d2 sl1 sl2 e r) ⟨o1, o2, he, hr, q⟩

/-- one tuple against another, as list.sort asks it -/
theorem oneLtTup {f : Bool} {xs ys : List PyData} {a b : Value} {as bs : List Addr} {Q : Bool → Shared → Prop} {E : Value → Shared → Prop} (ra : Reads s.heap a (.tuple xs) as) (rb : Reads s.heap b (.tuple ys) bs)
    (h : alike (.tuple xs) (.tuple ys) = true) (hu : A.units + min (PyData.tuple xs).depth (PyData.tuple ys).depth < cLine) (hq : Q (dataLt (.tuple xs) (.tuple ys)) s) : wpAny (model prog w) A (oneLt' f a b) Q E s := by
  cases f with
  | false => exact oneLt_alike (fun z => nomatch z) ra rb h (fun z => nomatch z) hu hq
  | true =>
    have hal : alikeAll xs ys = true := by simpa [alike] using h
    cases ra with
    | @tuple l o us n _ as₁ h1 h2 h3 h4 =>
      cases rb with
      | @tuple l' o' vs n' _ bs₁ k1 k2 k3 k4 =>
        have n1 : us.size = xs.length := by simpa using ReadsAll.length _ _ _ h4
        have n2 : vs.size = ys.length := by simpa using ReadsAll.length _ _ _ k4
        rw [dataLt_tuple, ← firstLt_toks xs ys hal, ← n1, ← n2] at hq
        rw [oneLt'_eq, if_pos rfl]
        refine wpAny_bind (wpAny_cRoomFor (room_here hu) ?_)
        refine wpAny_bind (wpAny_callSpecialIfBound?_slot (T := "tuple") ⟨_, h1, h2⟩ F.slot_tuple_lt (callLtTup (e := pairEq xs ys) (r := fun j => dataLt (xs.getD j .none) (ys.getD j .none)) ⟨_, h1, h2, _, h3⟩ ⟨_, k1, k2, _, k3⟩ (fun j j1 j2 => ?_) (fun j j1 j2 hj => ?_) (wpAny_truthy_bool hq)))
        · have q := eqAt_alikeAll xs ys A.in1 s us.toList vs.toList _ _ h4 k4 hal (room_in hu) j (by simpa using j1) (by simpa using j2)
          simpa using q
        · have q := rcLt_alikeAll xs ys A.in1 s us.toList vs.toList _ _ h4 k4 hal (room_in hu) j (by simpa using j1) (by simpa using j2) hj
          simpa using q

def full : PyData → Bool
  | .tuple (_ :: _) => true
  | _ => false

theorem firsts {M : Model} {E : Value → Shared → Prop} : ∀ {vs : List Value} {ds : List PyData} {Q : List (Option Value) → Shared → Prop}, EachIs (fun v d => ∃ as, Reads s.heap v d as) vs ds → (∀ d ∈ ds, ∃ l, d = .tuple l) →
    (∀ rs : List (Option Value), rs.map (·.isSome) = ds.map full → Q rs s) → wpAny M A (vs.mapM firstOfTuple') Q E s
  | _, _, Q, .nil, _, q => by rw [List.mapM_nil]; exact wpAny_pure (q [] rfl)
  | v :: vs, d :: ds, Q, .cons ⟨as, r⟩ t, ht, q => by
    obtain ⟨l, rfl⟩ := ht d List.mem_cons_self
    rw [List.mapM_cons]
    refine wpAny_bind ?_
    rw [kas_first_eq]
    cases r with
    | @tuple a o us n _ _ h1 h2 h3 h4 =>
      refine wpAny_bind (Looks.here (show Looks M s.heap (typeOf (.ref a)) o.cls from (Looks.ld h1).andThen .now) ?_)
      rw [h2, if_neg (by first | decide | simp)]
      refine wpAny_bind (listItems_at h1 h3 (wpAny_pure ?_))
      have n1 : us.size = l.length := by simpa using ReadsAll.length _ _ _ h4
      refine wpAny_bind (firsts (Q := fun bs s' => wpAny M A (pure (us[0]? :: bs)) Q E s') t (fun d hd => ht d (List.mem_cons_of_mem _ hd)) fun rs e => wpAny_pure (q _ ?_))
      rw [List.map_cons, List.map_cons, e]
      congr 1
      cases l with
      | nil => rw [show us[0]? = none from Array.getElem?_eq_none (by rw [n1]; exact Nat.le_refl _)]; rfl
      | cons x r => rw [Array.getElem?_eq_getElem (show 0 < us.size by rw [n1]; exact Nat.succ_pos _)]; rfl

/-- tuples, some of them empty, can be sorted -/
theorem sortsMixed {vs : List Value} {ds : List PyData} (e : EachIs (fun v d => ∃ as, Reads s.heap v d as) vs ds) (hal : AllAlike ds) (ht : ∀ d ∈ ds, ∃ l, d = .tuple l) (hm : ds.all full = false) (hu : ∀ d, d ∈ ds → A.units + d.depth < cLine) :
    SortsAt prog w A s (dataKind s.heap ds) vs := by
  have room : ∀ {d d' : PyData}, d ∈ ds → A.units + min d.depth d'.depth < cLine := fun {d d'} hd => Nat.lt_of_le_of_lt (Nat.add_le_add_left (Nat.min_le_left _ _) _) (hu d hd)
  have lt : ∀ (f : Bool) (E : Value → Shared → Prop) (x y : Value) (a b : (dataKind s.heap ds).α) {Q : Bool → Shared → Prop}, (dataKind s.heap ds).keyOf x = some a → (dataKind s.heap ds).keyOf y = some b → Q ((dataKind s.heap ds).blt a b) s →
      wpAny (model prog w) A (oneLt' f x y) Q E s := by
    intro f E x y a b Q ha hb hq
    obtain ⟨d, as, hd, ra, rfl⟩ := dataKind_inv ha
    obtain ⟨d', as', hd', rb, rfl⟩ := dataKind_inv hb
    obtain ⟨l, rfl⟩ := ht d hd
    obtain ⟨l', rfl⟩ := ht d' hd'
    exact oneLtTup ra rb (hal _ hd _ hd') (room hd) hq
  refine ⟨fun v hv => ?_, ?_⟩
  · obtain ⟨d, hd, as, r⟩ := e.left v hv
    exact ⟨_, dataKind_some hal hd r⟩
  · cases hds : ds with
    | nil => rw [hds] at hm; simp at hm
    | cons d₀ ds₀ =>
      rw [← hds]
      have hlen := e.length
      cases hf : full d₀ with
      | true =>
        refine ⟨general', fun E x y a b Q ha hb hq => lt false E x y a b ha hb hq, fun h2 E Q hq => ?_⟩
        rw [keyKind'_eq, List.mapM_toArray, map_eq_pure_bind]
        refine wpAny_bind (wpAny_bind (firsts e ht fun rs er => wpAny_pure ?_))
        have h1 : (rs.toArray.all fun x => x.isSome) = false := by
          rw [List.all_toArray, ← Bool.not_eq_true]
          intro q
          have : ds.all full = true := by
            have z : (rs.map (·.isSome)).all id = true := by simpa using q
            rw [er] at z
            simpa using z
          rw [hm] at this
          cases this
        rw [h1, if_neg (by simp)]
        have h0 : (rs.toArray[0]?.bind id).isSome = true := by
          rw [hds, List.map_cons, hf] at er
          cases rs with
          | nil => simp at er
          | cons r0 rr =>
            simp only [List.map_cons, List.cons.injEq] at er
            simpa using er.1
        rw [if_pos h0]
        exact wpAny_pure hq
      | false =>
        refine ⟨oneType', fun E x y a b Q ha hb hq => ?_, fun h2 E Q hq => ?_⟩
        · rw [keyLt'_oneType]
          exact lt true E x y a b ha hb hq
        · rw [keyKind'_eq, List.mapM_toArray, map_eq_pure_bind]
          refine wpAny_bind (wpAny_bind (firsts e ht fun rs er => wpAny_pure ?_))
          have h1 : (rs.toArray.all fun x => x.isSome) = false := by
            rw [List.all_toArray, ← Bool.not_eq_true]
            intro q
            have : ds.all full = true := by
              have z : (rs.map (·.isSome)).all id = true := by simpa using q
              rw [er] at z
              simpa using z
            rw [hm] at this
            cases this
          rw [h1, if_neg (by simp)]
          have h0 : (rs.toArray[0]?.bind id).isSome = false := by
            rw [hds, List.map_cons, hf] at er
            cases rs with
            | nil => rfl
            | cons r0 rr =>
              simp only [List.map_cons, List.cons.injEq] at er
              simpa using er.1
          rw [h0, if_neg (by simp)]
          rw [oneTypeOnly'_eq, List.mapM_toArray, map_eq_pure_bind]
          refine wpAny_bind (wpAny_bind (wpAny_bind (kas_mapM (r := Value.type "tuple") _ (fun v hv Q' hq => ?_) (wpAny_pure ?_))))
          · obtain ⟨d, hd, as, r⟩ := e.left v hv
            obtain ⟨l, rfl⟩ := ht d hd
            exact (looks_reads r).here hq
          · obtain ⟨v₁, rest, rfl⟩ : ∃ v₁ rest, vs = v₁ :: rest := by
              match vs, h2 with
              | v₁ :: rest, _ => exact ⟨v₁, rest, rfl⟩
            have hall : ((List.map (fun _ => Value.type "tuple") (v₁ :: rest)).toArray.all fun x => x == Value.type "tuple") = true := by
              simp only [List.all_toArray, List.all_map, List.all_eq_true]
              intro _ _
              exact beq_self_eq_true _
            have h0 : (List.map (fun _ => Value.type "tuple") (v₁ :: rest)).toArray[0]? = some (Value.type "tuple") := by simp
            rw [h0]
            simp only [hall, if_true]
            exact wpAny_pure (wpAny_pure hq)

/-- data that can be sorted: all alike; no None among them, or all tuples -/
def okData (ds : List PyData) : Bool := ds.all fun d => match d with
  | .none => false
  | _ => ds.all (alike d)

theorem sortsAt {vs : List Value} {ds : List PyData} (e : EachIs (fun v d => ∃ as, Reads s.heap v d as) vs ds) (hok : okData ds = true) (hu : ∀ d, d ∈ ds → A.units + d.depth < cLine) :
    AllAlike ds ∧ SortsAt prog w A s (dataKind s.heap ds) vs := by
  have hal : AllAlike ds := fun d hd d' hd' => by
    have q := List.all_eq_true.mp hok d hd
    cases d with
    | none => cases q
    | _ => exact List.all_eq_true.mp q d' hd'
  have hn : ∀ d ∈ ds, d ≠ .none := fun d hd z => by
    have q := List.all_eq_true.mp hok d hd
    rw [z] at q
    cases q
  refine ⟨hal, ?_⟩
  by_cases ht : ∀ d ∈ ds, ∃ l, d = .tuple l
  · cases hm : ds.all full with
    | false => exact sortsMixed e hal ht hm hu
    | true =>
      refine SortsAt.data e hal (.inl fun d hd => ?_) hu
      obtain ⟨l, rfl⟩ := ht d hd
      have q := List.all_eq_true.mp hm _ hd
      cases l with
      | nil => cases q
      | cons x r => exact ⟨x, r, rfl⟩
  · refine SortsAt.data e hal (.inr fun d hd => ⟨hn d hd, fun l z => ht fun d' hd' => ?_⟩) hu
    have q := hal _ hd _ hd'
    rw [z] at q
    cases d' with
    | tuple l' => exact ⟨l', rfl⟩
    | _ => simp [alike] at q

/-- sorted(xs): a new list, its items those of xs by their order -/
theorem sortedData {β : Type} {E : Value → Shared → Prop} {vs : List Value} {bs : List β} {enc : β → PyData} {R : Value → β → Prop} {l : Addr} {Q : Value → Shared → Prop} (hl : s.heap.IsList l vs.toArray) (e : EachIs R vs bs) (er : EachIs (fun v b => ∃ as, Reads s.heap v (enc b) as) vs bs)
    (hok : okData (bs.map enc) = true) (hL : bs.length ≤ sizeLine) (hu : ∀ b, b ∈ bs → A.units + 2 + (enc b).depth < cLine)
    (h : ∀ out, out.length = bs.length → EachIs R out (bs.mergeSort (dataLe false enc)) → Q (.ref (s.heap.objs.size + 1)) { s with heap := sortedAll s.heap vs (List.toArray out) }) :
    wpAny (model prog w) A (call (.builtin "sorted") [.ref l]) Q E s := by
  have er' : EachIs (fun v b => ∃ as, Reads (sortingHeap (copyHeap s.heap vs) (s.heap.objs.size + 1) vs) v (enc b) as) vs bs := er.mono fun _ _ ⟨as, r⟩ => ⟨as, PyProof.Rows.Reads.keeps (fun _ _ => sorting_copy_old) r⟩
  obtain ⟨hal, S⟩ := sortsAt (prog := prog) (w := w) (A := A.in1.in1) (s := { s with heap := sortingHeap (copyHeap s.heap vs) (s.heap.objs.size + 1) vs }) (each_map (R := fun v d => ∃ as, Reads (sortingHeap (copyHeap s.heap vs) (s.heap.objs.size + 1) vs) v d as) enc er') hok (bound_map hu)
  exact sorted_vals hl S (by rw [e.length]; exact hL) (h _ (by rw [sortVals_length false rfl]; exact e.length) (sortVals_data false e er' hal))
end
end Ms
set_option Elab.async false
set_option linter.all false
set_option autoImplicit false
set_option maxRecDepth 100000
set_option maxHeartbeats 4000000
namespace Mset
open PySem PySem.Spec PyProof.Rows L2

mutual
/-- no text in it -/
def nu : NestedKey → Bool
  | .none => true
  | .num _ => true
  | .text _ => false
  | .tup ks => nus ks
def nus : List NestedKey → Bool
  | [] => true
  | k :: ks => nu k && nus ks
end

section
variable {P : Program} {w : World}
/-- it is of no class statement, n levels down -/
def NoCls (P : Program) (w : World) (n : Nat) (s : Shared) (v : Value) : Prop := ∀ (A : Around) (E : Value → Shared → Prop) (Q : Bool → Shared → Prop), Q false s → wpAny (model P w) A (ofAClassStatement n v) Q E s
def ByVal (P : Program) (w : World) (n : Nat) (s : Shared) (v : Value) : Prop := ∀ (A : Around) (E : Value → Shared → Prop) (Q : Bool → Shared → Prop), Q true s → wpAny (model P w) A (hashByValue n v) Q E s
theorem noCls_tup {n m : Nat} {s : Shared} {a : Addr} {ob : Obj} {us : Array Value} (ho : s.heap.get? a = some ob) (hc : ob.cls = .type "tuple") (hd : ob.data = .seq us m) (hq : ∀ v ∈ us.toList, NoCls P w n s v) : NoCls P w (n + 1) s (.ref a) := by
  intro A E Q q
  have tyA : s.TypeIs (.ref a) "tuple" := ⟨ob, ho, hc⟩
  unfold ofAClassStatement
  refine wpAny_bind (wpAny_typeOf tyA ?_)
  dsimp only
  have e : (("tuple" : String) == "tuple") = true := by decide
  simp only [e, if_true, Bool.not_true, Bool.false_eq_true, if_false]
  try refine wpAny_bind (wpAny_pure ?_)
  try simp only [Bool.not_true, Bool.false_eq_true, if_false]
  show wpAny _ _ (seqItems? (.ref a) >>= _) _ _ s
  refine wpAny_bind (wpAny_seqItems ho hd ?_)
  dsimp only
  refine wpAny_bind ?_
  show wpAny _ _ (forIn us _ _) _ _ s
  rw [← Array.forIn_toList]
  refine wpAny_forIn_list _ (fun left st s' => st.1 = none ∧ s' = s ∧ ∀ v ∈ left, NoCls P w n s v) _ ?_ ?_ _ _ ⟨rfl, rfl, hq⟩
  · rintro v left st s' ⟨e1, rfl, al⟩
    refine wpAny_bind (al v List.mem_cons_self _ _ _ ?_)
    simp only [Bool.false_eq_true, if_false]
    exact wpAny_pure ⟨rfl, rfl, fun u hu => al u (List.mem_cons_of_mem _ hu)⟩
  · rintro ⟨x1, x2⟩ s' ⟨e1, rfl, _⟩
    simp only at e1
    subst e1
    exact wpAny_pure q
theorem byVal_tup {n m : Nat} {s : Shared} {a : Addr} {ob : Obj} {us : Array Value} (ho : s.heap.get? a = some ob) (hc : ob.cls = .type "tuple") (hd : ob.data = .seq us m) (hq : ∀ v ∈ us.toList, ByVal P w n s v) : ByVal P w (n + 1) s (.ref a) := by
  intro A E Q q
  have tyA : s.TypeIs (.ref a) "tuple" := ⟨ob, ho, hc⟩
  unfold hashByValue
  refine wpAny_bind (wpAny_specialOf tyA F.slot_tuple_hash.lookup ?_)
  show wpAny _ _ (seqItems? (.ref a) >>= _) _ _ s
  refine wpAny_bind (wpAny_seqItems ho hd ?_)
  refine wpAny_bind ?_
  show wpAny _ _ (forIn us _ _) _ _ s
  rw [← Array.forIn_toList]
  refine wpAny_forIn_list _ (fun left st s' => st.1 = none ∧ s' = s ∧ ∀ v ∈ left, ByVal P w n s v) _ ?_ ?_ _ _ ⟨rfl, rfl, hq⟩
  · rintro v left st s' ⟨e1, rfl, al⟩
    refine wpAny_bind (al v List.mem_cons_self _ _ _ ?_)
    simp only [Bool.not_true, Bool.false_eq_true, if_false]
    exact wpAny_pure ⟨rfl, rfl, fun u hu => al u (List.mem_cons_of_mem _ hu)⟩
  · rintro ⟨x1, x2⟩ s' ⟨e1, rfl, _⟩
    simp only at e1
    subst e1
    exact wpAny_pure q
mutual
theorem noCls_key : ∀ (k : NestedKey) (v : Value) (n : Nat) (s : Shared), NestedIs s.heap k v → k.depth ≤ n → NoCls P w n s v
  | .none, _, n, s, x, _ => by cases x; intro A E Q q; cases n <;> exact wpAny_pure q
  | .num i, _, n, s, x, _ => by cases x <;> (intro A E Q q; cases n <;> exact wpAny_pure q)
  | .text y, _, n, s, x, _ => by cases x; intro A E Q q; cases n <;> exact wpAny_pure q
  | .tup ks, _, n, s, x, hn => by
    cases x with
    | tup hg hc hd hk =>
      simp only [NestedKey.depth] at hn
      cases n with
      | zero => omega
      | succ n => exact noCls_tup hg hc hd (noCls_keys ks _ n s hk (by omega))
theorem noCls_keys : ∀ (ks : List NestedKey) (vs : List Value) (n : Nat) (s : Shared), NestedAll s.heap ks vs → NestedKey.depthAll ks ≤ n → ∀ v ∈ vs, NoCls P w n s v
  | [], _, n, s, x, _, v, hv => by cases x; cases hv
  | k :: ks, _, n, s, x, hn, v, hv => by
    cases x with
    | cons x1 x2 =>
      simp only [NestedKey.depthAll] at hn
      rcases List.mem_cons.mp hv with e | hv
      · rw [e]; exact noCls_key k _ n s x1 (by omega)
      · exact noCls_keys ks _ n s x2 (by omega) v hv
end
mutual
theorem byVal_key : ∀ (k : NestedKey) (v : Value) (n : Nat) (s : Shared), nu k = true → NestedIs s.heap k v → k.depth ≤ n → ByVal P w n s v
  | .none, _, n, s, _, x, _ => by cases x; intro A E Q q; cases n <;> exact wpAny_pure q
  | .num i, _, n, s, _, x, _ => by cases x <;> (intro A E Q q; cases n <;> exact wpAny_pure q)
  | .text y, _, n, s, z, x, _ => by simp [nu] at z
  | .tup ks, _, n, s, z, x, hn => by
    cases x with
    | tup hg hc hd hk =>
      simp only [NestedKey.depth] at hn
      cases n with
      | zero => omega
      | succ n => exact byVal_tup hg hc hd (byVal_keys ks _ n s (by simpa [nu] using z) hk (by omega))
theorem byVal_keys : ∀ (ks : List NestedKey) (vs : List Value) (n : Nat) (s : Shared), nus ks = true → NestedAll s.heap ks vs → NestedKey.depthAll ks ≤ n → ∀ v ∈ vs, ByVal P w n s v
  | [], _, n, s, _, x, _, v, hv => by cases x; cases hv
  | k :: ks, _, n, s, z, x, hn, v, hv => by
    cases x with
    | cons x1 x2 =>
      simp only [NestedKey.depthAll] at hn
      simp only [nus, Bool.and_eq_true] at z
      rcases List.mem_cons.mp hv with e | hv
      · rw [e]; exact byVal_key k _ n s z.1 x1 (by omega)
      · exact byVal_keys ks _ n s z.2 x2 (by omega) v hv
end

/-- the tuple at a is the key k: no text in it, at most eight deep -/
structure Ky (h : Heap) (k : NestedKey) (a : Addr) : Prop where
  is : NestedIs h k (.ref a)
  dep : k.depth ≤ 8
  num : nu k = true
theorem Ky.keep {h h' : Heap} {k : NestedKey} {a : Addr} (y : Ky h k a) (kp : ∀ c o vs n, h.get? c = some o → o.data = .seq vs n → h'.get? c = some o) : Ky h' k a := ⟨NestedIs.at kp _ _ y.is, y.dep, y.num⟩
theorem Ky.inj {h : Heap} {k k' : NestedKey} {a : Addr} (y : Ky h k a) (y' : Ky h k' a) : k = k' := NestedIs.inj _ _ _ y.is y'.is
theorem Ky.same {h h' : Heap} {k : NestedKey} {a b : Addr} {o : Obj} {es : Array (Int × Value)} {ep : Nat} {t : SetTable} (y : Ky h k b) (ho : h.get? a = some o) (hd : o.data = .set es ep t) (hs : Heap.SameBut a h h') : Ky h' k b :=
  y.keep fun c u vs n hc hu => (hs.2 c fun e => by subst e; rw [ho] at hc; cases hc; rw [hd] at hu; cases hu).trans hc

variable {A : Around} {E : Value → Shared → Prop} {s : Shared}
abbrev Rw := List (Addr × NestedKey)
abbrev hs_ (w : World) (L : Rw) : List Int := L.map fun p => p.2.hash w
def ent (w : World) (L : Rw) : List (Int × Value) := L.map fun p => (p.2.hash w, Value.ref p.1)

theorem seenKey {k : NestedKey} {b : Addr} {Q : Bool → Shared → Prop} (hk : Ky s.heap k b) {ys : List Value} (hy : ∀ y ∈ ys, ∃ k' c, y = Value.ref c ∧ Ky s.heap k' c) (q : Q false s) : wpAny (model P w) A (searchCouldBeSeen (.ref b) ys) Q E s := by
  unfold searchCouldBeSeen
  refine wpAny_bind ?_
  refine wpAny_forIn_list _ (fun left st s' => st.1 = none ∧ s' = s ∧ ∀ y ∈ left, ∃ k' c, y = Value.ref c ∧ Ky s.heap k' c) _ ?_ ?_ _ _ ⟨rfl, rfl, hy⟩
  · rintro v left st s' ⟨e1, rfl, al⟩
    obtain ⟨k', c, rfl, hc⟩ := al v List.mem_cons_self
    have al' : ∀ y ∈ left, ∃ k' c, y = Value.ref c ∧ Ky s'.heap k' c := fun u hu => al u (List.mem_cons_of_mem _ hu)
    dsimp only
    by_cases hv : (b == c || (carriedByValue (.ref b) && carriedByValue (.ref c))) = true
    · refine wp_if_pos hv ?_
      exact wpAny_pure ⟨rfl, rfl, al'⟩
    · refine wp_if_neg hv ?_
      refine wpAny_bind (quiet_key k _ 8 s' hk.is hk.dep _ _ _ ?_)
      simp only [Bool.not_true, Bool.false_eq_true, if_false]
      refine wpAny_bind (quiet_key k' _ 8 s' hc.is hc.dep _ _ _ ?_)
      simp only [Bool.not_true, Bool.false_eq_true, if_false]
      refine wpAny_bind (noCls_key k _ 8 s' hk.is hk.dep _ _ _ ?_)
      simp only [Bool.false_eq_true, if_false]
      refine wpAny_bind (noCls_key k' _ 8 s' hc.is hc.dep _ _ _ ?_)
      simp only [Bool.false_eq_true, if_false]
      exact wpAny_pure ⟨rfl, rfl, al'⟩
  · rintro ⟨x1, x2⟩ s' ⟨e1, rfl, _⟩
    simp only at e1
    subst e1
    exact wpAny_pure q

structure SetG (w : World) (h : Heap) (a : Addr) (L : Rw) (es : Array (Int × Value)) (ep : Nat) (t : SetTable) : Prop where
  ob : ∃ o, h.get? a = some o ∧ o.ExactSet ∧ o.data = .set es ep t
  rows : es.toList = ent w L
  tab : TabOk t (hs_ w L)
  nd : (L.map (·.2)).Nodup
  ky : ∀ p ∈ L, Ky h p.2 p.1
  plain : t.plain = true
  led : w.params.followText "set-order" = true ∨ t.led = true
  room : L.length * 5 < t.mask * 3
  few : L.length ≤ 76
variable {a : Addr} {L : Rw} {es : Array (Int × Value)} {ep : Nat} {t : SetTable}
theorem entLen {L : Rw} {es : Array (Int × Value)} (r : es.toList = ent w L) : es.size = L.length := by
  have q := congrArg List.length r
  unfold ent at q
  rw [Array.length_toList, List.length_map] at q
  exact q
theorem entAt {L : Rw} {es : Array (Int × Value)} (r : es.toList = ent w L) {i : Nat} {p : Addr × NestedKey} (e : L[i]? = some p) : es[i]? = some (p.2.hash w, Value.ref p.1) := by
  rw [← Array.getElem?_toList, r]
  unfold ent
  rw [List.getElem?_map, e]
  rfl
theorem SetG.fit (G : SetG w s.heap a L es ep t) : t.fits es.size = true := by
  have x1 := G.tab.sz
  rw [List.length_map] at x1
  have x2 := entLen G.rows
  have x3 := G.room
  unfold SetTable.fits SetTable.fill
  rw [G.tab.dm, Bool.and_eq_true, beq_iff_eq, decide_eq_true_eq]
  show t.place.size = es.size ∧ t.place.size + 0 ≤ t.mask
  omega
theorem SetG.gw (G : SetG w s.heap a L es ep t) : ¬ t.gaveWay = true := by
  unfold SetTable.gaveWay
  rw [mask_odd G.tab.mok]
  decide

/-- the start of the way -/
abbrev st0 (t : SetTable) (k : Int) : SetTable.Probe := runAt t.mask (SetTable.bits k % (t.mask + 1)) (SetTable.bits k)
theorem keepDummy (m : Nat) : ∀ (n : Nat) (p : SetTable.Probe), p.dummy = none → (nth m p n).dummy = none
  | 0, _, e => e
  | n + 1, p, e => keepDummy m n (adv m p) (by unfold adv; split <;> exact e)

theorem searchG (G : SetG w s.heap a L es ep t) {x : Addr} {k : NestedKey} (hx : Ky s.heap k x) (hu : A.units + 8 < cLine) {K : Nat} (hKf : K < 10 * SetTable.turns t.mask)
    (hK : way t.mask (k.hash w) K ∉ t.place.toList) (hKb : ∀ c, c < K → way t.mask (k.hash w) c ∈ t.place.toList) {Q : SetFound → Shared → Prop}
    (yes : k ∈ L.map (·.2) → Q (.there none) s) (no : k ∉ L.map (·.2) → Q (.free (way t.mask (k.hash w) K) false) s) :
    ∀ (f c : Nat) (stand : Option SetTable.Probe), stand.getD (t.probeStart (k.hash w)) = nth t.mask (st0 t (k.hash w)) c → c ≤ K → K - c < f →
      (∀ (i : Nat) p, L[i]? = some p → p.2 = k → ∃ c', c ≤ c' ∧ c' < K ∧ t.place.toList[i]? = some (way t.mask (k.hash w) c')) →
      wpAny (model P w) A (setSearchFrom a (.ref x) (k.hash w) true f stand) Q E s
  | 0, c, stand, _, _, hf, _ => absurd hf (Nat.not_lt_zero _)
  | f + 1, c, stand, hst, hc, hf, hre => by
    obtain ⟨o, ho, hex, hd⟩ := G.ob
    rw [setSearchFrom_succ]
    refine wpAny_bind (wpAny_setState_of ho hd G.fit ?_)
    dsimp only
    refine wp_if_neg G.gw ?_
    try refine wpAny_bind (wpAny_pure ?_)
    have nodum : (nth t.mask (st0 t (k.hash w)) c).dummy = none := keepDummy t.mask c _ rfl
    have shift : ∀ q, nth t.mask (nth t.mask (st0 t (k.hash w)) c) q = nth t.mask (st0 t (k.hash w)) (c + q) := fun q => (nth_add t.mask c _ q).symm
    have jAt : ∀ q, (nth t.mask (nth t.mask (st0 t (k.hash w)) c) q).j = way t.mask (k.hash w) (c + q) := fun q => congrArg SetTable.Probe.j (shift q)
    have spec := go_spec t G.tab.ris G.tab.dm (fun i => (es[i]?.map (·.1)).getD 0) (k.hash w) (10 * SetTable.turns t.mask) (K - c) _ nodum (by omega)
      (fun q hq => by rw [jAt]; exact hKb (c + q) (by omega)) (by rw [jAt, show c + (K - c) = K by omega]; exact hK)
    have hashAt : ∀ (i : Nat) p, L[i]? = some p → (es[i]?.map (·.1)).getD 0 = p.2.hash w := fun i p hp => by rw [entAt G.rows hp]; rfl
    rcases spec with ⟨q, i, hq, hi, hh, hno, hpr⟩ | ⟨hno, hpr⟩
    · have hpr' : t.probe (fun i => (es[i]?.map (·.1)).getD 0) (k.hash w) (stand.getD (t.probeStart (k.hash w))) = some (.candidate (way t.mask (k.hash w) (c + q)) i (nth t.mask (st0 t (k.hash w)) (c + (q + 1)))) := by
        rw [hst, ← jAt, ← shift]
        exact hpr
      rw [hpr']
      dsimp only
      rw [jAt] at hi
      have hil : i < L.length := by
        have l1 : i < t.place.toList.length := (List.getElem?_eq_some_iff.mp hi).1
        have l2 := G.tab.sz
        rw [List.length_map] at l2
        rw [Array.length_toList] at l1
        omega
      have hp : L[i]? = some L[i] := List.getElem?_eq_getElem hil
      generalize L[i] = p at hp
      have hmem : p ∈ L := List.mem_of_getElem? hp
      have pk := G.ky p hmem
      have go : wpAny (model P w) A (searchRest a (.ref x) (k.hash w) true f es t (way t.mask (k.hash w) (c + q)) i (nth t.mask (st0 t (k.hash w)) (c + (q + 1)))) Q E s := by
        unfold searchRest
        rw [entAt G.rows hp]
        dsimp only
        refine wpAny_bind (wpAny_holding ((nestedKind P w).eqBool (x := p.2) (y := k) hu ⟨pk.is, pk.dep⟩ ⟨hx.is, hx.dep⟩ ?_))
        refine wpAny_bind (wpAny_setState_of ho hd G.fit ?_)
        dsimp only
        by_cases hkk : p.2 = k
        · refine wp_if_pos (by simp [hkk]) ?_
          exact wpAny_pure (yes (List.mem_map.mpr ⟨p, hmem, hkk⟩))
        · refine wp_if_neg (by simp [hkk]) ?_
          try refine wpAny_bind (wpAny_pure ?_)
          rw [sameMem]
          dsimp only
          have lv : t.slot (way t.mask (k.hash w) (c + q)) = .live i := slot_live G.tab.ris hi
          simp only [if_true, lv, entAt G.rows hp]
          refine wpAny_bind (wpAny_isSame_ref_self (wpAny_bind (wpAny_pure ?_)))
          simp only [if_true]
          refine wp_if_neg (by simp [hkk]) ?_
          refine searchG G hx hu hKf hK hKb yes no f (c + (q + 1)) _ rfl (by omega) (by omega) fun i0 p0 h0 hk0 => ?_
          obtain ⟨c', b1, b2, b3⟩ := hre i0 p0 h0 hk0
          refine ⟨c', ?_, b2, b3⟩
          rcases Nat.lt_trichotomy c' (c + q) with z | z | z
          · exfalso
            refine hno (c' - c) i0 (by omega) (by rw [jAt, show c + (c' - c) = c' by omega]; exact b3) ?_
            exact (hashAt i0 p0 h0).trans (congrArg (fun y => NestedKey.hash w y) hk0)
          · exfalso
            rw [z] at b3
            have s0 := slot_live G.tab.ris b3
            rw [lv] at s0
            injection s0 with s0
            rw [← s0, hp] at h0
            exact hkk ((congrArg Prod.snd (Option.some.inj h0)).trans hk0)
          · omega
      by_cases hl : t.led = true
      · refine wp_if_neg (by simp [hl]) ?_
        try refine wpAny_bind (wpAny_pure ?_)
        exact go
      · refine wp_if_pos (by simp [hl]) ?_
        refine wpAny_bind (seenKey hx (fun y hy => ?_) ?_)
        · obtain ⟨e, he, ee⟩ := List.mem_map.mp hy
          have m1 : e ∈ es ∧ e.1 = k.hash w := by simpa using he
          have m2 : e ∈ es.toList := by simpa using m1.1
          rw [G.rows] at m2
          obtain ⟨p2, hp2, e2⟩ := List.mem_map.mp m2
          exact ⟨p2.2, p2.1, by rw [← ee, ← e2], G.ky p2 hp2⟩
        · refine wp_if_neg (by decide) ?_
          try refine wpAny_bind (wpAny_pure ?_)
          exact go
    · have hpr' : t.probe (fun i => (es[i]?.map (·.1)).getD 0) (k.hash w) (stand.getD (t.probeStart (k.hash w))) = some (.empty (way t.mask (k.hash w) K) none) := by
        have e2 : way t.mask (k.hash w) K = (nth t.mask (nth t.mask (st0 t (k.hash w)) c) (K - c)).j := by rw [jAt, show c + (K - c) = K by omega]
        rw [hst, e2]
        exact hpr
      rw [hpr']
      dsimp only
      refine wpAny_pure (no fun hm => ?_)
      obtain ⟨p0, h0, hk0⟩ := List.mem_map.mp hm
      obtain ⟨i0, hi0, e0⟩ := List.getElem_of_mem h0
      have h00 : L[i0]? = some p0 := by rw [List.getElem?_eq_getElem hi0, e0]
      obtain ⟨c', b1, b2, b3⟩ := hre i0 p0 h00 hk0
      refine hno (c' - c) i0 (by omega) (by rw [jAt, show c + (c' - c) = c' by omega]; exact b3) ?_
      exact (hashAt i0 p0 h00).trans (congrArg (fun y => NestedKey.hash w y) hk0)

theorem searchAdd (G : SetG w s.heap a L es ep t) {x : Addr} {k : NestedKey} (hx : Ky s.heap k x) (hu : A.units + 8 < cLine) {Q : SetFound → Shared → Prop} (yes : k ∈ L.map (·.2) → Q (.there none) s)
    (no : ∀ K, k ∉ L.map (·.2) → way t.mask (k.hash w) K ∉ t.place.toList → (∀ c, c < K → way t.mask (k.hash w) c ∈ t.place.toList) → Q (.free (way t.mask (k.hash w) K) false) s) :
    wpAny (model P w) A (setSearch a (.ref x) (k.hash w) true) Q E s := by
  have rm := G.room
  obtain ⟨K, hKf, hK, hKb⟩ := G.tab.first (by rw [List.length_map]; omega) (k.hash w)
  have lim : K < 100000 := by
    have : 10 * SetTable.turns t.mask ≤ 1420 := by
      unfold SetTable.turns
      rcases G.tab.mok with e | e | e <;> omega
    omega
  unfold setSearch
  refine searchG G hx hu hKf hK hKb yes (fun hn => no K hn hK hKb) 100000 0 none rfl (Nat.zero_le _) (by omega) fun i p hp hk => ?_
  have hi : (hs_ w L)[i]? = some (k.hash w) := by rw [List.getElem?_map, hp, ← hk]; rfl
  have hil : i < t.place.toList.length := by
    have l1 : i < L.length := (List.getElem?_eq_some_iff.mp hp).1
    have l2 := G.tab.sz
    rw [List.length_map] at l2
    rw [Array.length_toList]
    omega
  have hj := List.getElem?_eq_getElem hil
  obtain ⟨c, hc, e⟩ := G.tab.before hK hi hj
  exact ⟨c, Nat.zero_le _, hc, by rw [hj, e]⟩

theorem orderG (L : Rw) (es : Array (Int × Value)) (order : Array Nat) (hr : es.toList = ent w L) (hp : order.toList.Perm (List.range L.length)) :
    ∃ L2, (order.filterMap (es[·]?)).toList = ent w L2 ∧ L2.Perm L ∧ hs_ w L2 = order.toList.map fun i => (es.map (·.1)).getD i 0 := by
  have hsz := entLen hr
  have walk : ∀ l : List Nat, (∀ i ∈ l, i < L.length) → l.filterMap (fun i => es[i]?) = ent w (l.filterMap fun i => L[i]?) ∧ hs_ w (l.filterMap fun i => L[i]?) = l.map fun i => (es.map (·.1)).getD i 0 := by
    intro l
    induction l with
    | nil => intro _; exact ⟨rfl, rfl⟩
    | cons i l ih =>
      intro hl
      have hi := hl i List.mem_cons_self
      have hL : L[i]? = some L[i] := List.getElem?_eq_getElem hi
      have hE := entAt hr hL
      obtain ⟨e1, e2⟩ := ih fun j hj => hl j (List.mem_cons_of_mem _ hj)
      rw [List.filterMap_cons_some hE, List.filterMap_cons_some hL, e1]
      refine ⟨rfl, ?_⟩
      show NestedKey.hash w (L[i]).2 :: hs_ w (l.filterMap fun i => L[i]?) = _
      rw [List.map_cons, e2]
      have e5 : (es.map (·.1))[i]? = some ((L[i]).2.hash w) := by rw [Array.getElem?_map, hE]; rfl
      have e4 : (es.map (·.1)).getD i 0 = (L[i]).2.hash w := by simp [Array.getD_eq_getD_getElem?, e5]
      rw [e4]
  obtain ⟨e1, e2⟩ := walk order.toList fun i hi => List.mem_range.mp (hp.mem_iff.mp hi)
  refine ⟨_, by first | (rw [Array.toList_filterMap]; exact e1) | simpa using e1, ?_, e2⟩
  have all : ∀ n, n ≤ L.length → (List.range n).filterMap (fun i => L[i]?) = L.take n := by
    intro n
    induction n with
    | zero => intro _; rfl
    | succ n ih =>
      intro hn
      have hlt : n < L.length := hn
      rw [List.range_succ, List.filterMap_append, ih (Nat.le_of_lt hlt), List.take_succ, List.getElem?_eq_getElem hlt, List.filterMap_cons_some (List.getElem?_eq_getElem hlt)]
      rfl
  have pm : (order.toList.filterMap fun i => L[i]?).Perm ((List.range L.length).filterMap fun i => L[i]?) := hp.filterMap _
  rw [all L.length (Nat.le_refl _), List.take_length] at pm
  exact pm

theorem relayG {o : Obj} (ho : s.heap.get? a = some o) (hex : o.ExactSet) (hd : o.data = .set es ep t) (rows : es.toList = ent w L) (hsz : t.place.size = es.size) (hdm : t.dummies = #[]) (hfl : es.size ≤ t.mask)
    (nd : (L.map (·.2)).Nodup) (ky : ∀ p ∈ L, Ky s.heap p.2 p.1) (pl : t.plain = true) (ld : w.params.followText "set-order" = true ∨ t.led = true) (few : L.length ≤ 76) {wanted M : Nat}
    (hw : SetTable.sizeAbove wanted - 1 = M) (hM : MaskOk M) (hw2 : SetTable.sizeAbove wanted ≤ 128) (hn : L.length * 5 < M * 3) {Q : Unit → Shared → Prop}
    (hQ : ∀ h' L' es' ep' t', Heap.SameBut a s.heap h' → SetG w h' a L' es' ep' t' → L'.Perm L → Q () { s with heap := h' }) : wpAny (model P w) A (setRelay a wanted) Q E s := by
  have sl := entLen rows
  have fit : t.fits es.size = true := by
    unfold SetTable.fits SetTable.fill
    rw [hdm, Bool.and_eq_true, beq_iff_eq, decide_eq_true_eq]
    show t.place.size = es.size ∧ t.place.size + 0 ≤ t.mask
    omega
  obtain ⟨t', order, e, hp, T, em, el, epl, edm⟩ := relaid_ok t (hs := es.map (·.1)) (wanted := wanted) hw hM (by rw [Array.size_map, sl]; omega)
  rw [Array.size_map, sl] at hp
  obtain ⟨L2, r1, r2, r3⟩ := orderG L es order rows hp
  rw [← r3] at T
  have sz2 : (order.filterMap (es[·]?)).size = es.size := by rw [entLen r1, r2.length_eq, sl]
  rw [setRelay_eq]
  refine wpAny_bind (wpAny_setState_of ho hd fit ?_)
  dsimp only
  refine wp_if_neg (by rw [sizeLine_eq]; omega) ?_
  try refine wpAny_bind (wpAny_pure ?_)
  rw [e]
  dsimp only
  refine wpAny_bind ?_
  refine wp_if_neg (by rw [sz2]; simp) ?_
  try refine wpAny_bind (wpAny_pure ?_)
  refine wpAny_pure ?_
  dsimp only
  refine wpAny_storeSet_of ho hd ?_ (by rw [sz2, sl, sizeLine_eq]; omega)
  have sb : Heap.SameBut a s.heap (s.heap.update a (Obj.putSet (order.filterMap (es[·]?)) t')) := Heap.SameBut.update ..
  refine hQ _ L2 (order.filterMap (es[·]?)) (ep + 1) t' sb ⟨⟨_, store_at ho hd, ⟨hex.1, hex.2.1, hex.2.2⟩, rfl⟩, r1, T, (r2.map (·.2)).nodup_iff.mpr nd, fun p hpm => (ky p (r2.mem_iff.mp hpm)).same ho hd sb, by rw [epl]; exact pl, by rw [el]; exact ld, ?_, by rw [r2.length_eq]; exact few⟩ r2
  rw [r2.length_eq, em]
  exact hn

theorem addG (G : SetG w s.heap a L es ep t) {x : Addr} {k : NestedKey} (hx : Ky s.heap k x) (hu : A.units + 8 < cLine) (hfew : k ∉ L.map (·.2) → L.length + 1 ≤ 76) {Q : Bool → Shared → Prop}
    (hQ : ∀ b h' L' es' ep' t', Heap.SameBut a s.heap h' → SetG w h' a L' es' ep' t' → (k ∈ L.map (·.2) → L' = L) → (k ∉ L.map (·.2) → L'.Perm ((x, k) :: L)) → Q b { s with heap := h' }) :
    wpAny (model P w) A (setAddHashed a (.ref x) (k.hash w)) Q E s := by
  obtain ⟨o, ho, hex, hd⟩ := G.ob
  have sl := entLen G.rows
  have rm := G.room
  unfold setAddHashed
  refine wpAny_holding ?_
  rw [show (100000 : Nat) = 99999 + 1 from rfl, setAddHashedIn_succ]
  refine wpAny_bind (wpAny_setState_of ho hd G.fit ?_)
  dsimp only
  refine wp_if_neg (by simp [byScan, Value.scannable]) ?_
  try refine wpAny_bind (wpAny_pure ?_)
  refine wpAny_bind (searchAdd G hx hu (fun hm => ?_) fun K hm hK hb => ?_)
  · dsimp only
    exact wpAny_pure (hQ false s.heap L es ep t (Heap.SameBut.refl a s.heap) G (fun _ => rfl) fun z => absurd hm z)
  · dsimp only
    have few1 := hfew hm
    refine wpAny_bind (wpAny_setState_of ho hd G.fit ?_)
    dsimp only
    obtain ⟨q1, q2, q3, q4, q5, q6, q7, q8, q9⟩ := G.tab.put hK hb
    have pl1 : (t.put (way t.mask (k.hash w) K)).1.plain = true := by rw [q6]; exact G.plain
    generalize t.put (way t.mask (k.hash w) K) = pt at q1 q3 q4 q5 q6 q7 q8 q9 pl1 ⊢
    obtain ⟨t1, p⟩ := pt
    dsimp only at q1 q3 q4 q5 q6 q7 q8 q9 pl1 ⊢
    subst q1
    first
      | (refine wpAny_bind ?_; refine wp_if_pos pl1 ?_; refine byVal_key k _ 8 s hx.num hx.is hx.dep _ _ _ ?_)
      | refine wp_if_pos pl1 (wpAny_bind (byVal_key k _ 8 s hx.num hx.is hx.dep _ _ _ ?_))
    simp only [if_true]
    generalize SetTable.below t.place (way t.mask (k.hash w) K) = p at q2 q3 ⊢
    have rows1 : (SetTable.insertAt es p (k.hash w, Value.ref x)).toList = ent w (L.take p ++ (x, k) :: L.drop p) := by
      rw [SetTable.toList_insertAt, G.rows]
      unfold ent
      rw [List.map_append, List.map_cons, List.map_take, List.map_drop]
    have pm : (L.take p ++ (x, k) :: L.drop p).Perm ((x, k) :: L) := put_perm L p (x, k)
    have len1 : (L.take p ++ (x, k) :: L.drop p).length = L.length + 1 := pm.length_eq
    have hhs : hs_ w (L.take p ++ (x, k) :: L.drop p) = (hs_ w L).take p ++ k.hash w :: (hs_ w L).drop p := by
      unfold hs_
      rw [List.map_append, List.map_cons, List.map_take, List.map_drop]
    rw [← hhs] at q3
    have nd1 : ((L.take p ++ (x, k) :: L.drop p).map (·.2)).Nodup := by
      refine (pm.map (·.2)).nodup_iff.mpr ?_
      rw [List.map_cons]
      exact List.nodup_cons.mpr ⟨hm, G.nd⟩
    have sz1 : (SetTable.insertAt es p (k.hash w, Value.ref x)).size = L.length + 1 := by rw [entLen rows1, len1]
    generalize SetTable.insertAt es p (k.hash w, Value.ref x) = es1 at rows1 sz1 ⊢
    generalize L.take p ++ (x, k) :: L.drop p = L1 at pm len1 q3 nd1 rows1
    refine wpAny_bind (wpAny_storeSet_of ho hd ?_ (by rw [sz1, sizeLine_eq]; omega))
    have sb : Heap.SameBut a s.heap (s.heap.update a (Obj.putSet es1 t1)) := Heap.SameBut.update ..
    have ho1 := store_at (es' := es1) (t' := t1) ho hd
    generalize s.heap.update a (Obj.putSet es1 t1) = h1 at sb ho1 ⊢
    have ky1 : ∀ p ∈ L1, Ky h1 p.2 p.1 := fun p hp => by
      rcases List.mem_cons.mp (pm.mem_iff.mp hp) with e | hp
      · rw [e]; exact hx.same ho hd sb
      · exact (G.ky p hp).same ho hd sb
    have ld1 : w.params.followText "set-order" = true ∨ t1.led = true := by rw [q5]; exact G.led
    by_cases hf : t1.tooFull = true
    · first
        | (refine wpAny_bind ?_; refine wp_if_pos (by simp [hf]) ?_)
        | (refine wp_if_pos (by simp [hf]) ?_; refine wpAny_bind ?_)
      have hfull : (L.length + 1) * 5 ≥ t1.mask * 3 := by
        have z := hf
        unfold SetTable.tooFull at z
        rw [decide_eq_true_eq, q9, List.length_map] at z
        exact z
      rw [sl]
      have psz : t1.place.size = es1.size := by
        have z := q3.sz
        rw [List.length_map, len1] at z
        rw [z, sz1]
      have two : (t.mask = 7 ∧ L.length = 4) ∨ (t.mask = 31 ∧ L.length = 18) := by
        rcases G.tab.mok with e | e | e
        · left; rw [q4, e] at hfull; rw [e] at rm; exact ⟨e, by omega⟩
        · right; rw [q4, e] at hfull; rw [e] at rm; exact ⟨e, by omega⟩
        · exfalso; rw [q4, e] at hfull; omega
      have go : ∀ M, SetTable.sizeAbove (SetTable.grown (L.length + 1)) - 1 = M → MaskOk M → SetTable.sizeAbove (SetTable.grown (L.length + 1)) ≤ 128 → (L.length + 1) * 5 < M * 3 →
          wpAny (model P w) A (setRelay a (SetTable.grown (L.length + 1))) (fun _ s' => wpAny (model P w) A (pure true) Q E s') E { s with heap := h1 } := fun M g1 g2 g3 g4 => by
        refine relayG (s := { s with heap := h1 }) ho1 ⟨hex.1, hex.2.1, hex.2.2⟩ rfl rows1 psz q3.dm (by rw [sz1, q4]; rcases two with ⟨e, e2⟩ | ⟨e, e2⟩ <;> omega) nd1 ky1 pl1 ld1 (by rw [len1]; exact few1) g1 g2 g3 (by rw [len1]; exact g4) ?_
        intro h2 L2 es2 ep2 t2 sb2 G2 pm2
        exact wpAny_pure (hQ true h2 L2 es2 ep2 t2 (sb.trans sb2) G2 (fun z => absurd z hm) fun _ => pm2.trans pm)
      rcases two with ⟨_, e2⟩ | ⟨_, e2⟩
      · refine go 31 (by rw [e2, size_20]) (.inr (.inl rfl)) (by rw [e2, size_20]; decide) (by omega)
      · refine go 127 (by rw [e2, size_76]) (.inr (.inr rfl)) (by rw [e2, size_76]; decide) (by omega)
    · first
        | refine wp_if_neg (by simp [hf]) ?_
        | (refine wpAny_bind ?_; refine wp_if_neg (by simp [hf]) ?_; refine wpAny_pure ?_)
      refine wpAny_pure (hQ true h1 L1 es1 (ep + 1) t1 sb ⟨⟨_, ho1, ⟨hex.1, hex.2.1, hex.2.2⟩, rfl⟩, rows1, q3, nd1, ky1, pl1, ld1, ?_, by rw [len1]; exact few1⟩ (fun z => absurd z hm) fun _ => pm)
      have z := hf
      unfold SetTable.tooFull at z
      rw [decide_eq_true_eq, q9, List.length_map] at z
      rw [len1]
      omega
end
end Mset
set_option Elab.async false
set_option linter.all false
set_option autoImplicit false
set_option maxRecDepth 100000
set_option maxHeartbeats 8000000
namespace Mset
open PySem PySem.Spec PyProof.Rows L2

structure GotG (ks : Rw) (i : Nat) (L : Rw) : Prop where
  sub : ∀ p ∈ L, p ∈ ks.take i
  all : ∀ p ∈ ks.take i, p.2 ∈ L.map (·.2)
theorem GotG.old {ks L : Rw} {i : Nat} {x : Addr × NestedKey} (g : GotG ks i L) (e : ks[i]? = some x) (hm : x.2 ∈ L.map (·.2)) : GotG ks (i + 1) L := by
  refine ⟨fun p hp => ?_, fun p hp => ?_⟩
  · rw [take_next e]
    exact List.mem_append_left _ (g.sub p hp)
  · rw [take_next e] at hp
    rcases List.mem_append.mp hp with z | z
    · exact g.all p z
    · rw [List.mem_singleton.mp z]
      exact hm
theorem GotG.new {ks L L' : Rw} {i : Nat} {x : Addr × NestedKey} (g : GotG ks i L) (e : ks[i]? = some x) (pm : L'.Perm (x :: L)) : GotG ks (i + 1) L' := by
  refine ⟨fun p hp => ?_, fun p hp => ?_⟩
  · rw [take_next e]
    rcases List.mem_cons.mp (pm.mem_iff.mp hp) with z | z
    · rw [z]
      exact List.mem_append_right _ (List.mem_singleton.mpr rfl)
    · exact List.mem_append_left _ (g.sub p z)
  · rw [(pm.map (·.2)).mem_iff, List.map_cons]
    rw [take_next e] at hp
    rcases List.mem_append.mp hp with z | z
    · exact List.mem_cons_of_mem _ (g.all p z)
    · rw [List.mem_singleton.mp z]
      exact List.mem_cons_self

/-- at most 76 different keys -/
def Few (ks : Rw) : Prop := ∀ l : List NestedKey, l.Nodup → (∀ k ∈ l, k ∈ ks.map (·.2)) → l.length ≤ 76

section
variable {P : Program} {w : World} {A : Around} {E : Value → Shared → Prop} {s : Shared}
theorem SetG.keep {h h' : Heap} {a : Addr} {L : Rw} {es : Array (Int × Value)} {ep : Nat} {t : SetTable} (G : SetG w h a L es ep t) (ha : ∀ o, h.get? a = some o → h'.get? a = some o) (ht : ∀ p ∈ L, Ky h' p.2 p.1) : SetG w h' a L es ep t := by
  obtain ⟨o, ho, r⟩ := G.ob
  exact ⟨⟨o, ha o ho, r⟩, G.rows, G.tab, G.nd, ht, G.plain, G.led, G.room, G.few⟩
theorem Ky.all {h h' : Heap} {k : NestedKey} {a : Addr} (y : Ky h k a) (kp : ∀ c o, h.get? c = some o → h'.get? c = some o) : Ky h' k a := y.keep fun c o _ _ e _ => kp c o e

abbrev freshT (w : World) : SetTable := .fresh 0 0 (!w.params.followText "set-order")
abbrev freshO (w : World) : Obj := { cls := .type "set", dict := none, data := .set #[] 0 (freshT w) }
theorem setG0 {h : Heap} {a : Addr} (ho : h.get? a = some (freshO w)) : SetG w h a [] #[] 0 (freshT w) where
  ob := ⟨_, ho, ⟨rfl, rfl, rfl⟩, rfl⟩
  rows := rfl
  tab := ⟨List.Pairwise.nil, rfl, rfl, .inl rfl, fun x hx => (nomatch hx), fun i h j hi => (by simp at hi)⟩
  nd := List.nodup_nil
  ky := fun p hp => nomatch hp
  plain := rfl
  led := by
    show _ ∨ (!w.params.followText "set-order") = true
    cases w.params.followText "set-order"
    · exact .inr rfl
    · exact .inl rfl
  room := show 0 * 5 < 7 * 3 by decide
  few := Nat.zero_le _

theorem loopG {I : Addr} {fp wr : List Addr} {Gg : Array GenState → Array GenState → Prop} {n : Nat} {Pv : Nat → Value → Prop} {Sn : Nat → Shared → Prop} {R : Result → Shared → Prop}
    (W : WalksS P w A.in1 I fp wr Gg n Pv Sn) (S : Addr) (nS : S ∉ fp) (ks : Rw) (hn : n = ks.length) (fw : Few ks) (val : ∀ i v, Pv i v → ∃ p, ks[i]? = some p ∧ v = .ref p.1)
    (h0 : Heap) (hk : ∀ p ∈ ks, Ky h0 p.2 p.1) (hS0 : h0.get? S = none) (hw0 : ∀ b ∈ wr, h0.get? b = none) (hu : A.in1.units + 8 < cLine) :
    ∀ (m i : Nat) (s : Shared), n - i = m → i ≤ n → Sn i s → (∀ b o, h0.get? b = some o → s.heap.get? b = some o) → (∃ L es ep t, SetG w s.heap S L es ep t ∧ GotG ks i L) →
      (∀ s' L es ep t, Moved (S :: wr) Gg s s' → SetG w s'.heap S L es ep t → GotG ks n L → (∀ b o, h0.get? b = some o → s'.heap.get? b = some o) → R (.ok (.ret .none)) s') →
      codeAny (model P w) A (.builtin "set.update.loop" ⟨[.ref S, .ref I], []⟩) R s := by
  have nw : S ∉ wr := fun z => nS (W.sub _ z)
  have up : ∀ b ∈ wr, b ∈ S :: wr := fun b hb => List.mem_cons_of_mem _ hb
  have kp : ∀ {s s' : Shared}, Moved wr Gg s s' → (∀ b o, h0.get? b = some o → s.heap.get? b = some o) → ∀ b o, h0.get? b = some o → s'.heap.get? b = some o := fun hm hkp b o e =>
    hm.heap b o (fun hb => by rw [hw0 b hb] at e; cases e) (hkp b o e)
  intro m
  induction m with
  | zero =>
    intro i s hm hi hst hkp ⟨L, es, ep, t, hS, g⟩ hR
    have hin : i = n := by omega
    subst hin
    refine codeAny_builtin F.entry_set_update_loop ?_
    rw [Around.under_plainId F.plain_set_update_loop _]
    show wpAny _ A.in1 (pyNext (.ref I) >>= _) _ _ s
    refine wpAny_bind (W.done s _ _ hst fun s' mv => ?_)
    show wpAny _ A.in1 (ret Value.none) _ _ s'
    have kp' := kp mv hkp
    exact wpAny_pure (hR s' L es ep t (mv.mono up) (hS.keep (fun o e => mv.heap S o nw e) fun p hp => (hk p (List.mem_of_mem_take (g.sub p hp))).all kp') g kp')
  | succ m ih =>
    intro i s hm hi hst hkp ⟨L, es, ep, t, hS, g⟩ hR
    have hlt : i < n := by omega
    refine codeAny_builtin F.entry_set_update_loop ?_
    rw [Around.under_plainId F.plain_set_update_loop _]
    show wpAny _ A.in1 (pyNext (.ref I) >>= _) _ _ s
    refine wpAny_bind (W.item i s _ _ hlt hst fun v s' hP hst' mv => ?_)
    obtain ⟨p, hp, rfl⟩ := val i v hP
    have kp' := kp mv hkp
    have sub : ∀ p ∈ L, p ∈ ks := fun p hp => List.mem_of_mem_take (g.sub p hp)
    have hS' : SetG w s'.heap S L es ep t := hS.keep (fun o e => mv.heap S o nw e) fun q hq => (hk q (sub q hq)).all kp'
    have hx : Ky s'.heap p.2 p.1 := (hk p (List.mem_of_getElem? hp)).all kp'
    show wpAny _ A.in1 (holding [Value.ref p.1] (setAdd S (.ref p.1)) >>= _) _ _ s'
    refine wpAny_bind (wpAny_holding ?_)
    unfold setAdd
    refine wpAny_holding ?_
    refine wpAny_bind ((nestedKind P w).pyHash (k := p.2) hu ⟨hx.is, hx.dep⟩ ?_)
    refine addG (s := { s' with toks := s'.toks + p.2.draws }) hS' hx hu (fun hn => ?_) fun b h' L' es' ep' t' sb hS2 c1 c2 => ?_
    · have z := fw (p.2 :: L.map (·.2)) (List.nodup_cons.mpr ⟨hn, hS.nd⟩) fun k hk' => by
        rcases List.mem_cons.mp hk' with e | hk'
        · rw [e]; exact List.mem_map.mpr ⟨p, List.mem_of_getElem? hp, rfl⟩
        · obtain ⟨q, hq, e⟩ := List.mem_map.mp hk'
          exact List.mem_map.mpr ⟨q, sub q hq, e⟩
      rw [List.length_cons, List.length_map] at z
      exact z
    · have g' : GotG ks (i + 1) L' := by
        rcases Classical.em (p.2 ∈ L.map (·.2)) with c | c
        · rw [c1 c]; exact g.old hp c
        · exact g.new hp (c2 c)
      have kp2 : ∀ b o, h0.get? b = some o → h'.get? b = some o := fun b o e => (sb.2 b (fun z => by rw [z, hS0] at e; cases e)).trans (kp' b o e)
      refine wpAny_pure ⟨plainId_quiet F.plain_set_update_loop _, ih (i + 1) _ (by omega) hlt (W.frame _ s' _ _ hst' (Nat.le_add_right _ _) fun b hb o e => ?_) kp2 ⟨L', es', ep', t', hS2, g'⟩ fun s'' L2 es2 ep2 t2 mv2 hS3 g3 kp3 => ?_⟩
      · rw [sb.2 b (fun z : b = S => nS (by rw [← z]; exact hb))]
        exact e
      · refine hR s'' L2 es2 ep2 t2 (Moved.trans W.gtrans ((mv.mono up).then_heap (Nat.le_add_right _ _) fun b o hb e => ?_) mv2) hS3 g3 kp3
        rw [sb.2 b (fun z : b = S => hb (by rw [z]; exact List.mem_cons_self))]
        exact e

theorem callSetG {l : Addr} {items : Array Value} (ks : Rw) {Q : Value → Shared → Prop} (hh : A.handled = none) (hl : s.heap.IsList l items) (hit : items.toList = ks.map fun p => Value.ref p.1)
    (hk : ∀ p ∈ ks, Ky s.heap p.2 p.1) (fw : Few ks) (hu : A.units + 16 < cLine)
    (h : ∀ (h' : Heap) (tk : Nat) L es ep t, SetG w h' s.heap.objs.size L es ep t → GotG ks ks.length L → (∀ b o, s.heap.get? b = some o → h'.get? b = some o) → Q (.ref s.heap.objs.size) { s with heap := h', toks := tk }) :
    wpAny (model P w) A (call (.type "set") [.ref l]) Q E s := by
  have isz : items.size = ks.length := by
    have q := congrArg List.length hit
    rw [Array.length_toList, List.length_map] at q
    exact q
  obtain ⟨c0, tl0, mr0⟩ := F.called_set.mro
  have made0 := F.called_set.made
  have sub0 := F.called_set.sub
  refine wpAny_call (codeAny_of_tree ?_)
  show wpAny _ _ (callAny (.type "set") _) _ _ _
  refine wpAny_pure ⟨Code.quiet_builtin _ (by decide +kernel), codeAny_builtin F.entry_type_call ?_⟩
  rw [Around.under_plain (weight_type_call_type "set" [.ref l] []) rfl]
  have notT := F.called_set.notType
  have canC := F.called_set.canCreate
  have tcall := F.typeCall_set_1 (.ref l)
  repeat (any_goals (first | assumption | wp_step))
  refine codeAny_mono (code_set_led1 (.ref l) (E := E) (Q₁ := fun obj s₁ => obj = .ref s.heap.objs.size ∧ s₁ = { s with heap := s.heap.push (freshO w) }) ⟨rfl, rfl⟩) fun r s₁ hr => ?_
  cases r with
  | error e => exact hr
  | ok fl =>
    cases fl with
    | ret obj =>
      obtain ⟨rfl, rfl⟩ := hr
      have atS : (s.heap.push (freshO w)).get? s.heap.objs.size = some (freshO w) := Heap.get?_push_size _ rfl
      have tyS : Shared.TypeIs { s with heap := s.heap.push (freshO w) } (.ref s.heap.objs.size) "set" := ⟨_, atS, rfl⟩
      have li0 := F.called_set.init.lookup
      have bi0 := F.called_set.init.bind (.ref s.heap.objs.size)
      repeat (any_goals (first | assumption | wp_step))
      refine codeAny_mono (codeAny_call_builtin (R := wants (fun r s₂ => r = .none ∧ ∃ h' tk L es ep t, s₂ = { s with heap := h', toks := tk } ∧ SetG w h' s.heap.objs.size L es ep t ∧ GotG ks ks.length L ∧
          (∀ b o, s.heap.get? b = some o → h'.get? b = some o)) E) F.called_set.init.plain F.entry_set_init (check_set_init_1 tyS ?_)) fun r₂ s₂ hr₂ => ?_
      · obtain ⟨ol, hol, hcl, nl, hdl⟩ := hl
        obtain ⟨ocls, odict, odata, oslots⟩ := ol
        simp only at hcl hdl
        subst hcl; subst hdl
        have atl : (s.heap.push (freshO w)).get? l = some { cls := .type "list", dict := odict, data := .seq items nl, slots := oslots } := Heap.get?_push_of_some _ hol
        have sls := F.sub_list_set
        have slf := F.sub_list_frozenset
        have nedict : (Value.type "list" == Value.type "dict") = false := by decide
        have hl1 : (s.heap.push (freshO w)).IsList l items := ⟨_, atl, rfl, nl, rfl⟩
        unfold Builtin.«set.__init__» noKeywords Builtin.Frozenset.updateFrom
        generalize hPI : pyIter = PI
        wp_walk
        subst hPI
        refine wpAny_pyIter_list hl1 ?_
        refine wpAny_bind (wpAny_runValue ?_)
        have ltl : l < s.heap.objs.size := Heap.lt_size hol
        have hh3 : A.in1.in1.in1.handled = none := by simp [hh]
        have neI : l ≠ (s.heap.push (freshO w)).objs.size := by
          rw [Heap.size_push]
          exact Nat.ne_of_lt (Nat.lt_succ_of_lt ltl)
        have nSf : s.heap.objs.size ∉ [(s.heap.push (freshO w)).objs.size, l] := by
          rw [Heap.size_push]
          simp only [List.mem_cons, List.mem_singleton, List.not_mem_nil, or_false, not_or]
          exact ⟨Nat.ne_of_lt (Nat.lt_succ_self _), Nat.ne_of_gt ltl⟩
        have val : ∀ (i : Nat) (v : Value), items[i]? = some v → ∃ p, ks[i]? = some p ∧ v = .ref p.1 := fun i v hv => by
          have q : items.toList[i]? = some v := by rw [Array.getElem?_toList]; exact hv
          rw [hit, List.getElem?_map] at q
          cases hq : ks[i]? with
          | none => rw [hq] at q; cases q
          | some p =>
            rw [hq] at q
            exact ⟨p, rfl, (Option.some.inj q).symm⟩
        have nonef : ∀ b, s.heap.objs.size ≤ b → s.heap.get? b = none := fun b hb => by
          cases q : s.heap.get? b with
          | none => rfl
          | some o => exact absurd (Nat.lt_of_lt_of_le (Heap.lt_size q) hb) (Nat.lt_irrefl _)
        refine loopG ((Walks.list hh3 _ l neI items).toS) s.heap.objs.size nSf ks isz fw val s.heap hk (nonef _ (Nat.le_refl _))
          (fun b hb => nonef b (by rw [List.mem_singleton.mp hb, Heap.size_push]; exact Nat.le_succ _)) (by simp only [Around.in1_units]; omega) (items.size - 0) 0 _ (by omega) (Nat.zero_le _)
          ⟨⟨_, Heap.get?_push_size _ rfl, rfl, rfl⟩, (hl1.push _)⟩ (fun b o e => Heap.get?_push_of_some _ (Heap.get?_push_of_some _ e)) ?g0 ?gR
        case g0 =>
          exact ⟨[], #[], 0, _, setG0 (Heap.get?_push_of_some _ atS), ⟨fun p hp => (nomatch hp), fun p hp => (by simp at hp)⟩⟩
        case gR =>
          intro s' L es ep t mv hS' g' kp
          obtain ⟨h', g2, d', tk', os'⟩ := s'
          have eg : g2 = s.gens := mv.gens
          have ed : d' = s.drawn := mv.drawn
          have eo : os' = s.os := mv.os
          subst eg; subst ed; subst eo
          show wpAny _ _ _ _ _ _
          refine wpAny_pure ?_
          show wpAny _ _ (ret Value.none) _ _ _
          rw [isz] at g'
          exact wpAny_pure ⟨rfl, h', tk', L, es, ep, t, rfl, hS', g', kp⟩
      · cases r₂ with
        | error e => exact hr₂
        | ok fl₂ =>
          cases fl₂ with
          | ret r =>
            obtain ⟨rfl, h', tk, L, es, ep, t, rfl, hS', g', kp⟩ := hr₂
            repeat (any_goals (first | assumption | wp_step))
            exact h _ _ _ _ _ _ hS' g' kp
          | _ => exact hr₂.elim
    | _ => exact hr.elim
end
end Mset
set_option Elab.async false
set_option linter.all false
set_option autoImplicit false
namespace Mi
open PySem PySem.Spec PyProof.Rows L2

mutual
def D.dat : D → PyData
  | .non => .none
  | .bl b => .bool b
  | .int i => .int i
  | .str x => .str x
  | .tup ds => .tuple (D.dats ds)
  | .ref _ => .none
def D.dats : List D → List PyData
  | [] => []
  | d :: ds => D.dat d :: D.dats ds
end
theorem D.dats_map : ∀ ds : List D, D.dats ds = ds.map D.dat
  | [] => rfl
  | d :: ds => by rw [D.dats, D.dats_map ds]; rfl

/-- forms of data whose members are alike -/
inductive Sc where
  | int | tree | col | seq (s : Sc) | pair (a b : Sc)
mutual
def D.tree : D → Bool
  | .tup ds => D.trees ds
  | _ => false
def D.trees : List D → Bool
  | [] => true
  | d :: ds => D.tree d && D.trees ds
end
mutual
def D.col : D → Bool
  | .tup [.int _, .tup cs] => D.cols cs
  | _ => false
def D.cols : List D → Bool
  | [] => true
  | d :: ds => D.col d && D.cols ds
end
def D.isInt : D → Bool
  | .int _ => true
  | _ => false
def Sc.ok : Sc → D → Bool
  | .int, d => d.isInt
  | .tree, d => d.tree
  | .col, d => d.col
  | .seq s, .tup ds => ds.all s.ok
  | .pair a b, .tup [x, y] => a.ok x && b.ok y
  | _, _ => false

def icmp (i j : Int) : Ordering := bif decide (i < j) then .lt else bif decide (i = j) then .eq else .gt
mutual
def D.cmp : D → D → Ordering
  | .int i, .int j => icmp i j
  | .tup xs, .tup ys => D.cmps xs ys
  | _, _ => .eq
def D.cmps : List D → List D → Ordering
  | [], [] => .eq
  | [], _ :: _ => .lt
  | _ :: _, [] => .gt
  | x :: xs, y :: ys => match D.cmp x y with
    | .eq => D.cmps xs ys
    | .lt => .lt
    | .gt => .gt
end

/-- ints and tuples alone -/
inductive Pur : D → Prop
  | int (i : Int) : Pur (.int i)
  | tup {ds : List D} : (∀ d ∈ ds, Pur d) → Pur (.tup ds)

open PySem.W in
mutual
theorem tree_ok : ∀ x : D, x.tree = true → Pur x ∧ ∀ y : D, y.tree = true → alike x.dat y.dat = true
  | .tup xs, h => by
    have q := trees_ok xs (by simpa [D.tree] using h)
    refine ⟨.tup q.1, fun y hy => ?_⟩
    cases y with
    | tup ys =>
      simp only [D.dat, alike]
      exact q.2 ys (by simpa [D.tree] using hy)
    | _ => simp [D.tree] at hy
  | .non, h => by simp [D.tree] at h
  | .bl _, h => by simp [D.tree] at h
  | .int _, h => by simp [D.tree] at h
  | .str _, h => by simp [D.tree] at h
  | .ref _, h => by simp [D.tree] at h
theorem trees_ok : ∀ xs : List D, D.trees xs = true → (∀ d ∈ xs, Pur d) ∧ ∀ ys : List D, D.trees ys = true → alikeAll (D.dats xs) (D.dats ys) = true
  | [], _ => ⟨fun _ h => (nomatch h), fun ys _ => by simp [D.dats, alikeAll]⟩
  | x :: xs, h => by
    simp only [D.trees, Bool.and_eq_true] at h
    have q1 := tree_ok x h.1
    have q2 := trees_ok xs h.2
    refine ⟨fun d hd => ?_, fun ys hy => ?_⟩
    · rcases List.mem_cons.mp hd with e | hd
      · rw [e]; exact q1.1
      · exact q2.1 d hd
    · cases ys with
      | nil => simp [D.dats, alikeAll]
      | cons y ys =>
        simp only [D.trees, Bool.and_eq_true] at hy
        rw [D.dats, D.dats, alikeAll, q1.2 y hy.1, q2.2 ys hy.2]
        rfl
end
theorem col_shape {x : D} (h : x.col = true) : ∃ i cs, x = .tup [.int i, .tup cs] ∧ D.cols cs = true := by
  unfold D.col at h
  split at h
  · exact ⟨_, _, rfl, h⟩
  · cases h
theorem D.cols_of {cs : List D} {i : Int} : D.col (.tup [.int i, .tup cs]) = D.cols cs := by rw [D.col]
open PySem.W in
theorem col_ok : ∀ (n : Nat) (x : D), sizeOf x < n → x.col = true → Pur x ∧ ∀ y : D, y.col = true → alike x.dat y.dat = true
  | 0, _, h, _ => absurd h (Nat.not_lt_zero _)
  | n + 1, x, hs, h => by
    obtain ⟨i, cs, rfl, hc⟩ := col_shape h
    have all : ∀ (l : List D), (∀ d ∈ l, d ∈ cs) → D.cols l = true → (∀ d ∈ l, Pur d) ∧ ∀ ys : List D, D.cols ys = true → alikeAll (D.dats l) (D.dats ys) = true := by
      intro l
      induction l with
      | nil => intro _ _; exact ⟨fun _ h => (nomatch h), fun ys _ => by simp [D.dats, alikeAll]⟩
      | cons x xs ih =>
        intro hm h
        simp only [D.cols, Bool.and_eq_true] at h
        have hx : sizeOf x < sizeOf cs := List.sizeOf_lt_of_mem (hm x List.mem_cons_self)
        have hz : sizeOf cs < sizeOf (D.tup [.int i, .tup cs]) := by simp; omega
        have q1 := col_ok n x (by omega) h.1
        have q2 := ih (fun d hd => hm d (List.mem_cons_of_mem _ hd)) h.2
        refine ⟨fun d hd => ?_, fun ys hy => ?_⟩
        · rcases List.mem_cons.mp hd with e | hd
          · rw [e]; exact q1.1
          · exact q2.1 d hd
        · cases ys with
          | nil => simp [D.dats, alikeAll]
          | cons y ys =>
            simp only [D.cols, Bool.and_eq_true] at hy
            rw [D.dats, D.dats, alikeAll, q1.2 y hy.1, q2.2 ys hy.2]
            rfl
    have q := all cs (fun _ h => h) hc
    refine ⟨.tup fun d hd => ?_, fun y hy => ?_⟩
    · rcases List.mem_cons.mp hd with e | hd
      · rw [e]; exact .int i
      · rw [List.mem_singleton.mp hd]; exact .tup q.1
    · obtain ⟨j, ds, rfl, hd⟩ := col_shape hy
      simp only [D.dat, D.dats, alike, alikeAll, Bool.true_and, Bool.and_true]
      exact q.2 ds hd
theorem pair_shape {a b : Sc} {x : D} (h : (Sc.pair a b).ok x = true) : ∃ x1 x2, x = .tup [x1, x2] ∧ a.ok x1 = true ∧ b.ok x2 = true := by
  match x, h with
  | .tup [x1, x2], h =>
    simp only [Sc.ok, Bool.and_eq_true] at h
    exact ⟨x1, x2, rfl, h.1, h.2⟩
  | .tup [], h => simp [Sc.ok] at h
  | .tup [_], h => simp [Sc.ok] at h
  | .tup (_ :: _ :: _ :: _), h => simp [Sc.ok] at h
  | .non, h => simp [Sc.ok] at h
  | .bl _, h => simp [Sc.ok] at h
  | .int _, h => simp [Sc.ok] at h
  | .str _, h => simp [Sc.ok] at h
  | .ref _, h => simp [Sc.ok] at h
open PySem.W in
theorem sc_ok : ∀ (s : Sc) (x : D), s.ok x = true → Pur x ∧ ∀ y : D, s.ok y = true → alike x.dat y.dat = true
  | .int, x, h => by
    cases x with
    | int i =>
      refine ⟨.int i, fun y hy => ?_⟩
      cases y with
      | int j => simp [D.dat, alike]
      | _ => simp [Sc.ok, D.isInt] at hy
    | _ => simp [Sc.ok, D.isInt] at h
  | .tree, x, h => tree_ok x h
  | .col, x, h => col_ok _ x (Nat.lt_succ_self _) h
  | .seq s, x, h => by
    cases x with
    | tup xs =>
      have hx : xs.all s.ok = true := by simpa [Sc.ok] using h
      refine ⟨.tup fun d hd => (sc_ok s d (List.all_eq_true.mp hx d hd)).1, fun y hy => ?_⟩
      cases y with
      | tup ys =>
        have hy : ys.all s.ok = true := by simpa [Sc.ok] using hy
        have all : ∀ (l m : List D), l.all s.ok = true → m.all s.ok = true → alikeAll (D.dats l) (D.dats m) = true := by
          intro l
          induction l with
          | nil => intro m _ _; simp [D.dats, alikeAll]
          | cons x xs ih =>
            intro m h1 h2
            cases m with
            | nil => simp [D.dats, alikeAll]
            | cons y ys =>
              simp only [List.all_cons, Bool.and_eq_true] at h1 h2
              rw [D.dats, D.dats, alikeAll, (sc_ok s x h1.1).2 y h2.1, ih ys h1.2 h2.2]
              rfl
        simp only [D.dat, alike]
        exact all xs ys hx hy
      | _ => simp [Sc.ok] at hy
    | _ => simp [Sc.ok] at h
  | .pair a b, x, h => by
    obtain ⟨x1, x2, rfl, h1, h2⟩ := pair_shape h
    have q1 := sc_ok a x1 h1
    have q2 := sc_ok b x2 h2
    refine ⟨.tup fun d hd => ?_, fun y hy => ?_⟩
    · rcases List.mem_cons.mp hd with e | hd
      · rw [e]; exact q1.1
      · rw [List.mem_singleton.mp hd]; exact q2.1
    · obtain ⟨y1, y2, rfl, k1, k2⟩ := pair_shape hy
      simp only [D.dat, D.dats, alike, alikeAll, q1.2 y1 k1, q2.2 y2 k2, Bool.true_and]

theorem icmp_eq {i j : Int} : icmp i j = .eq ↔ i = j := by
  unfold icmp
  by_cases h1 : i < j
  · rw [decide_eq_true h1]
    simp only [cond_true]
    exact ⟨fun h => (nomatch h), fun h => by omega⟩
  · rw [decide_eq_false h1]
    by_cases h2 : i = j
    · rw [decide_eq_true h2]; simp [h2]
    · rw [decide_eq_false h2]; simp [h2]
theorem icmp_lt {i j : Int} : icmp i j = .lt ↔ i < j := by
  unfold icmp
  by_cases h1 : i < j
  · rw [decide_eq_true h1]; simp [h1]
  · rw [decide_eq_false h1]
    by_cases h2 : i = j
    · rw [decide_eq_true h2]; simp [h1]
    · rw [decide_eq_false h2]; simp [h1]

open PySem.W in
theorem cmp_spec : ∀ (x : D), Pur x → ∀ y : D, Pur y → alike x.dat y.dat = true → (D.cmp x y = .eq ↔ x = y) ∧ (PyData.eqv x.dat y.dat = true ↔ x = y) ∧ (dataLt x.dat y.dat = true ↔ D.cmp x y = .lt) := by
  intro x px
  induction px with
  | int i =>
    intro y py al
    cases py with
    | int j =>
      refine ⟨?_, ?_, ?_⟩
      · simp only [D.cmp, icmp_eq]
        exact ⟨fun e => by rw [e], fun e => by cases e; rfl⟩
      · simp only [D.dat, PyData.eqv, beq_iff_eq]
        exact ⟨fun e => by rw [e], fun e => by cases e; rfl⟩
      · simp only [D.dat, D.cmp, dataLt_int, decide_eq_true_eq, icmp_lt]
    | tup _ => simp [D.dat, alike] at al
  | @tup xs hx ih =>
    intro y py al
    cases py with
    | int j => simp [D.dat, alike] at al
    | @tup ys hy =>
      have key : ∀ (l m : List D), (∀ d ∈ l, d ∈ xs) → (∀ d ∈ m, Pur d) → alikeAll (D.dats l) (D.dats m) = true →
          (D.cmps l m = .eq ↔ l = m) ∧ (PyData.eqvAll (D.dats l) (D.dats m) = true ↔ l = m) ∧ (PyProof.Rows.lexLt itemOrd (keyToksAll (D.dats l)) (keyToksAll (D.dats m)) = true ↔ D.cmps l m = .lt) := by
        intro l
        induction l with
        | nil =>
          intro m hl hm al
          cases m with
          | nil => exact ⟨by simp [D.cmps], by simp [D.dats, PyData.eqvAll], by simp only [D.cmps]; exact ⟨fun z => by revert z; decide, fun z => (nomatch z)⟩⟩
          | cons y ys =>
            refine ⟨by simp [D.cmps], by simp [D.dats, PyData.eqvAll], ?_⟩
            have z : PyProof.Rows.lexLt itemOrd (keyToksAll (D.dats [])) (keyToksAll (D.dats (y :: ys))) = true := by
              simp only [D.dats, keyToksAll]
              rw [lex_atom (by intro z; cases z)]
              decide
            rw [z]
            simp [D.cmps]
        | cons a l ihl =>
          intro m hl hm al
          cases m with
          | nil =>
            refine ⟨by simp [D.cmps], by simp [D.dats, PyData.eqvAll], ?_⟩
            have z : PyProof.Rows.lexLt itemOrd (keyToksAll (D.dats (a :: l))) (keyToksAll (D.dats [])) = false := by
              simp only [D.dats, keyToksAll]
              rw [lex_atom (by intro z; cases z)]
              decide
            rw [z]
            simp [D.cmps]
          | cons b m =>
            simp only [D.dats] at al ⊢
            obtain ⟨a1, a2⟩ := alike_all_cons al
            obtain ⟨c1, c2, c3⟩ := ih a (hl a List.mem_cons_self) b (hm b List.mem_cons_self) a1
            obtain ⟨d1, d2, d3⟩ := ihl m (fun d hd => hl d (List.mem_cons_of_mem _ hd)) (fun d hd => hm d (List.mem_cons_of_mem _ hd)) a2
            rw [dataLt_cons a1, eqv_all_cons]
            by_cases e : a = b
            · have q1 := c1.mpr e
              have q2 := c2.mpr e
              simp only [D.cmps, q1, q2, Bool.true_and, if_true]
              exact ⟨d1.trans ⟨fun z => by rw [e, z], fun z => (List.cons.inj z).2⟩, d2.trans ⟨fun z => by rw [e, z], fun z => (List.cons.inj z).2⟩, d3⟩
            · have q2 : PyData.eqv a.dat b.dat = false := by
                cases q : PyData.eqv a.dat b.dat with
                | false => rfl
                | true => exact absurd (c2.mp q) e
              have ne : ¬ (a :: l = b :: m) := fun z => e (List.cons.inj z).1
              simp only [D.cmps, q2, Bool.false_and, Bool.false_eq_true, if_false]
              cases q : D.cmp a b with
              | eq => exact absurd (c1.mp q) e
              | lt =>
                simp only [q] at c3
                exact ⟨by simp [ne], by simp [ne], by simp [c3]⟩
              | gt =>
                refine ⟨by simp [ne], by simp [ne], ?_⟩
                rw [c3, q]
      obtain ⟨k1, k2, k3⟩ := key xs ys (fun _ h => h) hy (by simpa [D.dat, alike] using al)
      simp only [D.dat, D.cmp, PyData.eqv, dataLt_tuple]
      exact ⟨k1.trans ⟨fun z => by rw [z], fun z => by cases z; rfl⟩, k2.trans ⟨fun z => by rw [z], fun z => by cases z; rfl⟩, k3⟩

def ins (x : D) : List D → List D
  | [] => [x]
  | y :: r => match D.cmp x y with
    | .gt => y :: ins x r
    | _ => x :: y :: r
def isort : List D → List D
  | [] => []
  | x :: r => ins x (isort r)
def uins (x : D) : List D → List D
  | [] => [x]
  | y :: r => match D.cmp x y with
    | .gt => y :: uins x r
    | .eq => y :: r
    | .lt => x :: y :: r
def usort : List D → List D
  | [] => []
  | x :: r => uins x (usort r)

theorem ins_perm (x : D) : ∀ l : List D, (ins x l).Perm (x :: l)
  | [] => .refl _
  | y :: r => by
    unfold ins
    split
    · exact ((ins_perm x r).cons y).trans (List.Perm.swap x y r)
    · exact .refl _
theorem isort_perm : ∀ l : List D, (isort l).Perm l
  | [] => .refl _
  | x :: r => (ins_perm x _).trans ((isort_perm r).cons x)
theorem uins_mem (x : D) : ∀ (l : List D) (d : D), (D.cmp x d = .eq → x = d) → (∀ y ∈ l, D.cmp x y = .eq → x = y) → (d ∈ uins x l ↔ d = x ∨ d ∈ l)
  | [], d, _, _ => by simp [uins]
  | y :: r, d, h1, h2 => by
    unfold uins
    split
    · rw [List.mem_cons, uins_mem x r d h1 fun z hz => h2 z (List.mem_cons_of_mem _ hz), List.mem_cons]
      exact ⟨fun z => z.elim (fun e => .inr (.inl e)) fun z => z.elim .inl fun z => .inr (.inr z), fun z => z.elim (fun e => .inr (.inl e)) fun z => z.elim .inl fun z => .inr (.inr z)⟩
    · rename_i q
      have e := h2 y List.mem_cons_self q
      rw [e, List.mem_cons]
      exact ⟨fun z => .inr z, fun z => z.elim .inl id⟩
    · exact List.mem_cons

/-- ds are of one form -/
def okS (scs : List Sc) (ds : List D) : Bool := scs.any fun s => ds.all s.ok

structure Fine (P : D → Prop) : Prop where
  pur : ∀ x, P x → Pur x
  al : ∀ x y, P x → P y → PySem.W.alike x.dat y.dat = true
section
variable {P : D → Prop} (F : Fine P)
include F
theorem Fine.eq {x y : D} (hx : P x) (hy : P y) : D.cmp x y = .eq ↔ x = y := (cmp_spec x (F.pur x hx) y (F.pur y hy) (F.al x y hx hy)).1
theorem Fine.lt {x y : D} (hx : P x) (hy : P y) : PySem.W.dataLt x.dat y.dat = true ↔ D.cmp x y = .lt := (cmp_spec x (F.pur x hx) y (F.pur y hy) (F.al x y hx hy)).2.2
theorem Fine.gt {x y : D} (hx : P x) (hy : P y) : D.cmp x y = .gt ↔ PySem.W.dataLt y.dat x.dat = true := by
  constructor
  · intro h
    cases q : PySem.W.dataLt y.dat x.dat with
    | true => rfl
    | false =>
      cases q2 : PySem.W.dataLt x.dat y.dat with
      | true => rw [(F.lt hx hy).mp q2] at h; cases h
      | false =>
        exfalso
        have e : D.cmp y x = .eq := by
          cases q3 : D.cmp y x with
          | eq => rfl
          | lt => rw [(F.lt hy hx).mpr q3] at q; cases q
          | gt =>
            -- both greater: the rows of signs are one
            have tk : PySem.W.keyToks x.dat = PySem.W.keyToks y.dat := (listOrd itemOrd).total _ _ q2 q
            have z := PySem.W.toks_eqv x.dat y.dat (F.al x y hx hy)
            cases q4 : PyData.eqv x.dat y.dat with
            | true =>
              have e := (cmp_spec x (F.pur x hx) y (F.pur y hy) (F.al x y hx hy)).2.1.mp q4
              rw [(F.eq hx hy).mpr e] at h
              cases h
            | false =>
              -- unlike data have unlike signs at some place
              have w1 := z.2 q4 [.inl 0] [.inl 1]
              have w2 := z.2 q4 [.inl 1] [.inl 0]
              rw [tk] at w1 w2
              rw [PySem.W.lex_pre] at w1 w2
              have u1 : PyProof.Rows.lexLt itemOrd [Sum.inl 0] [Sum.inl 1] = true := by decide
              have u2 : PyProof.Rows.lexLt itemOrd [Sum.inl 1] [Sum.inl 0] = false := by decide
              rw [u1] at w1
              rw [u2, ← w1] at w2
              cases w2
        have e2 := (F.eq hy hx).mp e
        rw [(F.eq hx hy).mpr e2.symm] at h
        cases h
  · intro h
    cases q : D.cmp x y with
    | gt => rfl
    | eq =>
      have e := (F.eq hx hy).mp q
      rw [e] at h
      have := (listOrd itemOrd).irrefl (PySem.W.keyToks y.dat)
      exact absurd (h.symm.trans this) (by decide)
    | lt =>
      have q2 := (F.lt hx hy).mpr q
      have tr := (listOrd itemOrd).trans _ _ _ q2 h
      have := (listOrd itemOrd).irrefl (PySem.W.keyToks x.dat)
      exact absurd (tr.symm.trans this) (by decide)
/-- x is not above y -/
abbrev Dle (x y : D) : Prop := PySem.W.dataLt y.dat x.dat = false
omit F in
theorem Dle.trans {x y z : D} (h1 : Dle x y) (h2 : Dle y z) : Dle x z := by
  cases q : PySem.W.dataLt z.dat x.dat with
  | false => exact q
  | true =>
    rcases (listOrd itemOrd).negTrans _ (PySem.W.keyToks y.dat) _ q with e | e
    · exact absurd (e.symm.trans h2) (by decide)
    · exact absurd (e.symm.trans h1) (by decide)
theorem Fine.anti {x y : D} (hx : P x) (hy : P y) (h1 : Dle x y) (h2 : Dle y x) : x = y := by
  cases q : D.cmp x y with
  | eq => exact (F.eq hx hy).mp q
  | lt => exact absurd ((F.lt hx hy).mpr q) (by rw [h2]; decide)
  | gt => exact absurd ((F.gt hx hy).mp q) (by rw [h1]; decide)
theorem ins_sorted {x : D} (hx : P x) : ∀ {l : List D}, (∀ d ∈ l, P d) → l.Pairwise Dle → (ins x l).Pairwise Dle
  | [], _, _ => List.pairwise_singleton _ _
  | y :: r, hl, hs => by
    have hy := hl y List.mem_cons_self
    obtain ⟨h1, h2⟩ := List.pairwise_cons.mp hs
    unfold ins
    split
    · rename_i q
      refine List.pairwise_cons.mpr ⟨fun z hz => ?_, ins_sorted hx (fun d hd => hl d (List.mem_cons_of_mem _ hd)) h2⟩
      rcases List.mem_cons.mp ((ins_perm x r).mem_iff.mp hz) with e | hz
      · rw [e]
        have g := (F.gt hx hy).mp q
        show PySem.W.dataLt x.dat y.dat = false
        cases q2 : PySem.W.dataLt x.dat y.dat with
        | false => rfl
        | true => rw [(F.lt hx hy).mp q2] at q; cases q
      · exact h1 z hz
    · rename_i q
      have le : Dle x y := by
        show PySem.W.dataLt y.dat x.dat = false
        cases q2 : PySem.W.dataLt y.dat x.dat with
        | false => rfl
        | true => exact absurd ((F.gt hx hy).mpr q2) q
      refine List.pairwise_cons.mpr ⟨fun z hz => ?_, hs⟩
      rcases List.mem_cons.mp hz with e | hz
      · rw [e]; exact le
      · exact le.trans (h1 z hz)
theorem isort_sorted : ∀ {l : List D}, (∀ d ∈ l, P d) → (isort l).Pairwise Dle
  | [], _ => List.Pairwise.nil
  | x :: r, h => ins_sorted F (h x List.mem_cons_self) (fun d hd => h d (List.mem_cons_of_mem _ ((isort_perm r).mem_iff.mp hd))) (isort_sorted fun d hd => h d (List.mem_cons_of_mem _ hd))
theorem sorted_unique : ∀ {l m : List D}, l.Perm m → (∀ d ∈ l, P d) → l.Pairwise Dle → m.Pairwise Dle → l = m
  | [], m, p, _, _, _ => (List.Perm.nil_eq p)
  | x :: l, [], p, _, _, _ => absurd p.length_eq (by simp)
  | x :: l, y :: m, p, hP, hl, hm => by
    obtain ⟨l1, l2⟩ := List.pairwise_cons.mp hl
    obtain ⟨m1, m2⟩ := List.pairwise_cons.mp hm
    have hx := hP x List.mem_cons_self
    have hyl : y ∈ x :: l := p.mem_iff.mpr List.mem_cons_self
    have hy := hP y hyl
    have e : x = y := by
      have xm : x ∈ y :: m := p.mem_iff.mp List.mem_cons_self
      rcases List.mem_cons.mp hyl with e | hyl
      · exact e.symm
      · rcases List.mem_cons.mp xm with e | xm
        · exact e
        · exact F.anti hx hy (l1 y hyl) (m1 x xm)
    subst e
    rw [sorted_unique ((List.perm_cons x).mp p) (fun d hd => hP d (List.mem_cons_of_mem _ hd)) l2 m2]
theorem mergeSort_eq {ds : List D} (h : ∀ d ∈ ds, P d) : ds.mergeSort (PySem.W.dataLe false D.dat) = isort ds := by
  have T := PySem.W.sortLe_total (listOrd itemOrd) false (fun d : D => PySem.W.keyToks d.dat)
  have pm : (ds.mergeSort (PySem.W.dataLe false D.dat)).Perm ds := List.mergeSort_perm _ _
  have srt : (ds.mergeSort (PySem.W.dataLe false D.dat)).Pairwise Dle := by
    have q := List.pairwise_mergeSort (le := PySem.W.dataLe false D.dat) (fun a b c => T.trans a b c) (fun a b => Bool.or_eq_true_iff.mpr (T.total a b)) ds
    refine q.imp fun {a b} z => ?_
    have z' : (!PySem.W.dataLt b.dat a.dat) = true := z
    show PySem.W.dataLt b.dat a.dat = false
    simpa using z'
  exact sorted_unique F (pm.trans (isort_perm ds).symm) (fun d hd => h d (pm.mem_iff.mp hd)) srt (isort_sorted F h)
end
theorem okS_fine {scs : List Sc} {ds : List D} (h : okS scs ds = true) : ∃ P : D → Prop, Fine P ∧ ∀ d ∈ ds, P d := by
  obtain ⟨s, _, hs⟩ := List.any_eq_true.mp h
  exact ⟨fun d => s.ok d = true, ⟨fun x hx => (sc_ok s x hx).1, fun x y hx hy => (sc_ok s x hx).2 y hy⟩, fun d hd => List.all_eq_true.mp hs d hd⟩
end Mi
set_option Elab.async false
set_option linter.all false
set_option autoImplicit false
set_option maxHeartbeats 1600000
namespace Mi
open PySem PySem.Spec PyProof.Rows L2 Mset
open PySem.W (EachIs)

/-- at most n deep -/
def D.low : Nat → D → Bool
  | 0, .tup _ => false
  | n + 1, .tup ds => ds.all (D.low n)
  | _, _ => true
theorem depthAll_le {n : Nat} : ∀ {ds : List PyData}, (∀ d ∈ ds, d.depth ≤ n) → PyData.depthAll ds ≤ n
  | [], _ => by simp [PyData.depthAll]
  | d :: ds, h => by
    rw [PyData.depthAll]
    exact Nat.max_le.mpr ⟨h d List.mem_cons_self, depthAll_le fun e he => h e (List.mem_cons_of_mem _ he)⟩
theorem low_dat : ∀ (n : Nat) (d : D), d.low n = true → d.dat.depth ≤ n
  | n, .non, _ => by simp [D.dat, PyData.depth]
  | n, .bl _, _ => by simp [D.dat, PyData.depth]
  | n, .int _, _ => by simp [D.dat, PyData.depth]
  | n, .str _, _ => by simp [D.dat, PyData.depth]
  | n, .ref _, _ => by simp [D.dat, PyData.depth]
  | 0, .tup ds, h => by simp [D.low] at h
  | n + 1, .tup ds, h => by
    rw [D.dat, PyData.depth, D.dats_map]
    have q := depthAll_le (n := n) (ds := ds.map D.dat) fun e he => by
      obtain ⟨d, hd, rfl⟩ := List.mem_map.mp he
      exact low_dat n d (List.all_eq_true.mp (by simpa [D.low] using h) d hd)
    omega
mutual
theorem low_key : ∀ (n : Nat) (d : D) (k : NestedKey), d.low n = true → d.key = some k → k.depth ≤ n
  | n, .non, k, _, e => by simp only [D.key, Option.some.injEq] at e; subst e; exact Nat.zero_le _
  | n, .bl _, k, _, e => by simp [D.key] at e
  | n, .int _, k, _, e => by simp only [D.key, Option.some.injEq] at e; subst e; exact Nat.zero_le _
  | n, .str _, k, _, e => by simp only [D.key, Option.some.injEq] at e; subst e; exact Nat.zero_le _
  | n, .ref _, k, _, e => by simp [D.key] at e
  | 0, .tup ds, k, h, e => by simp [D.low] at h
  | n + 1, .tup ds, k, h, e => by
    rw [D.key] at e
    cases q : D.keys ds with
    | none => rw [q] at e; cases e
    | some ks =>
      rw [q] at e
      simp only [Option.some.injEq] at e
      subst e
      have z := low_keys n ds ks (fun d hd => List.all_eq_true.mp (by simpa [D.low] using h) d hd) q
      rw [NestedKey.depth]
      omega
theorem low_keys : ∀ (n : Nat) (ds : List D) (ks : List NestedKey), (∀ d ∈ ds, d.low n = true) → D.keys ds = some ks → NestedKey.depthAll ks ≤ n
  | n, [], ks, _, e => by simp only [D.keys, Option.some.injEq] at e; subst e; exact Nat.zero_le _
  | n, d :: ds, ks, h, e => by
    rw [D.keys] at e
    cases q : D.key d with
    | none => rw [q] at e; cases e
    | some k =>
      rw [q] at e
      cases q2 : D.keys ds with
      | none => rw [q2] at e; cases e
      | some ks' =>
        rw [q2] at e
        simp only [Option.some.injEq] at e
        subst e
        rw [NestedKey.depthAll]
        exact Nat.max_le.mpr ⟨low_key n d k (h d List.mem_cons_self) q, low_keys n ds ks' (fun e he => h e (List.mem_cons_of_mem _ he)) q2⟩
end
mutual
theorem key_inj : ∀ (d d' : D) (k : NestedKey), d.key = some k → d'.key = some k → d = d'
  | .non, d', k, e, e' => by
    simp only [D.key, Option.some.injEq] at e; subst e
    cases d' with
    | tup ds => rw [D.key] at e'; cases q : D.keys ds <;> rw [q] at e' <;> simp at e'
    | _ => first | rfl | simp [D.key] at e'
  | .bl _, d', k, e, e' => by simp [D.key] at e
  | .int _, d', k, e, e' => by
    simp only [D.key, Option.some.injEq] at e; subst e
    cases d' with
    | tup ds => rw [D.key] at e'; cases q : D.keys ds <;> rw [q] at e' <;> simp at e'
    | int j => simp only [D.key, Option.some.injEq, NestedKey.num.injEq] at e'; rw [e']
    | _ => first | rfl | simp [D.key] at e'
  | .str _, d', k, e, e' => by
    simp only [D.key, Option.some.injEq] at e; subst e
    cases d' with
    | tup ds => rw [D.key] at e'; cases q : D.keys ds <;> rw [q] at e' <;> simp at e'
    | str j => simp only [D.key, Option.some.injEq, NestedKey.text.injEq] at e'; rw [e']
    | _ => first | rfl | simp [D.key] at e'
  | .ref _, d', k, e, e' => by simp [D.key] at e
  | .tup ds, d', k, e, e' => by
    rw [D.key] at e
    cases q : D.keys ds with
    | none => rw [q] at e; cases e
    | some ks =>
      rw [q] at e
      simp only [Option.some.injEq] at e
      subst e
      cases d' with
      | tup ds' =>
        rw [D.key] at e'
        cases q' : D.keys ds' with
        | none => rw [q'] at e'; cases e'
        | some ks' =>
          rw [q'] at e'
          simp only [Option.some.injEq, NestedKey.tup.injEq] at e'
          subst e'
          rw [keys_inj ds ds' _ q q']
      | _ => simp [D.key] at e'
theorem keys_inj : ∀ (ds ds' : List D) (ks : List NestedKey), D.keys ds = some ks → D.keys ds' = some ks → ds = ds'
  | [], ds', ks, e, e' => by
    simp only [D.keys, Option.some.injEq] at e; subst e
    cases ds' with
    | nil => rfl
    | cons d ds => rw [D.keys] at e'; cases q : D.key d <;> rw [q] at e' <;> simp at e'; cases q2 : D.keys ds <;> rw [q2] at e' <;> simp at e'
  | d :: ds, ds', ks, e, e' => by
    rw [D.keys] at e
    cases q : D.key d with
    | none => rw [q] at e; cases e
    | some k =>
      rw [q] at e
      cases q2 : D.keys ds with
      | none => rw [q2] at e; cases e
      | some ks1 =>
        rw [q2] at e
        simp only [Option.some.injEq] at e
        subst e
        cases ds' with
        | nil => simp [D.keys] at e'
        | cons d' ds1 =>
          rw [D.keys] at e'
          cases q' : D.key d' with
          | none => rw [q'] at e'; cases e'
          | some k' =>
            rw [q'] at e'
            cases q3 : D.keys ds1 with
            | none => rw [q3] at e'; cases e'
            | some ks2 =>
              rw [q3] at e'
              simp only [Option.some.injEq, List.cons.injEq] at e'
              obtain ⟨rfl, rfl⟩ := e'
              rw [key_inj d d' _ q q', keys_inj ds ds1 _ q2 q3]
end
theorem nus_all : ∀ ks : List NestedKey, (∀ k ∈ ks, nu k = true) → nus ks = true
  | [], _ => rfl
  | k :: ks, h => by rw [nus, h k List.mem_cons_self, nus_all ks fun e he => h e (List.mem_cons_of_mem _ he)]; rfl
theorem keys_of : ∀ ds : List D, (∀ d ∈ ds, ∃ k, d.key = some k ∧ nu k = true) → ∃ ks, D.keys ds = some ks ∧ ∀ k ∈ ks, nu k = true
  | [], _ => ⟨[], rfl, fun _ h => nomatch h⟩
  | d :: ds, h => by
    obtain ⟨k, e, u⟩ := h d List.mem_cons_self
    obtain ⟨ks, e2, u2⟩ := keys_of ds fun x hx => h x (List.mem_cons_of_mem _ hx)
    refine ⟨k :: ks, by rw [D.keys, e, e2], fun x hx => ?_⟩
    rcases List.mem_cons.mp hx with z | z
    · rw [z]; exact u
    · exact u2 x z
theorem pur_key {d : D} (h : Pur d) : ∃ k, d.key = some k ∧ nu k = true := by
  induction h with
  | int i => exact ⟨_, rfl, rfl⟩
  | @tup ds h ih =>
    obtain ⟨ks, e, u⟩ := keys_of ds ih
    exact ⟨.tup ks, by rw [D.key, e], nus_all ks u⟩

section
variable {X : Cx} {pins : List (Addr × Obj)} {σ : L2.St} {H : Hp} {s : Shared} {μ : Nat → Addr} {n : Nat}
mutual
theorem rep_key (I : Inv X pins σ H s) : ∀ (d : D) (k : NestedKey) (v : V) (u : Value), Rep X.K H μ n d v → RelV v u → d.key = some k → NestedIs s.heap k u
  | .non, k, v, u, r, rv, e => by
    simp only [D.key, Option.some.injEq] at e; subst e
    cases r; cases rv; exact .none
  | .bl _, k, v, u, r, rv, e => by simp [D.key] at e
  | .int i, k, v, u, r, rv, e => by
    simp only [D.key, Option.some.injEq] at e; subst e
    cases r
    obtain ⟨t, rfl⟩ := rv
    exact .int i t
  | .str x, k, v, u, r, rv, e => by
    simp only [D.key, Option.some.injEq] at e; subst e
    cases r
    obtain ⟨t, rfl⟩ := rv
    exact .text x t
  | .ref _, k, v, u, r, rv, e => by simp [D.key] at e
  | .tup ds, k, v, u, r, rv, e => by
    rw [D.key] at e
    cases q : D.keys ds with
    | none => rw [q] at e; cases e
    | some ks =>
      rw [q] at e
      simp only [Option.some.injEq] at e
      subst e
      cases r with
      | tup st ra =>
        cases rv
        obtain ⟨its, rr, ⟨o, ho, hc, m, hd⟩, _⟩ := I.tuple st.sq
        exact .tup ho hc hd (by simpa using rep_keys I ds ks _ _ ra rr q)
theorem rep_keys (I : Inv X pins σ H s) : ∀ (ds : List D) (ks : List NestedKey) (vs : List V) (us : List Value), RepAll X.K H μ n ds vs → Vals vs us → D.keys ds = some ks → NestedAll s.heap ks us
  | [], ks, vs, us, r, rv, e => by
    simp only [D.keys, Option.some.injEq] at e; subst e
    cases r; cases rv; exact .nil
  | d :: ds, ks, vs, us, r, rv, e => by
    rw [D.keys] at e
    cases q : D.key d with
    | none => rw [q] at e; cases e
    | some k =>
      rw [q] at e
      cases q2 : D.keys ds with
      | none => rw [q2] at e; cases e
      | some ks1 =>
        rw [q2] at e
        simp only [Option.some.injEq] at e
        subst e
        cases r with
        | cons r1 r2 =>
          cases rv with
          | cons v1 v2 => exact .cons (rep_key I d k _ _ r1 v1 q) (rep_keys I ds ks1 _ _ r2 v2 q2)
end
mutual
/-- as the model's data: no refs within -/
def D.flat : D → Bool
  | .ref _ => false
  | .tup ds => D.flats ds
  | _ => true
def D.flats : List D → Bool
  | [] => true
  | d :: ds => D.flat d && D.flats ds
end
theorem flats_all : ∀ {ds : List D}, (∀ d ∈ ds, d.flat = true) → D.flats ds = true
  | [], _ => rfl
  | d :: ds, h => by rw [D.flats, h d List.mem_cons_self, flats_all fun e he => h e (List.mem_cons_of_mem _ he)]; rfl
theorem pur_flat {d : D} (h : Pur d) : d.flat = true := by
  induction h with
  | int i => rfl
  | tup h ih => rw [D.flat]; exact flats_all ih
mutual
theorem rep_dp : ∀ (d : D) (v : V), Rep X.K H μ n d v → d.flat = true → Dp X.K H v d.dat
  | .non, _, r, _ => by cases r; exact .non
  | .bl b, _, r, _ => by cases r; exact .bl b
  | .int i, _, r, _ => by cases r; exact .int i
  | .str x, _, r, _ => by cases r; exact .str x
  | .ref _, _, _, f => by simp [D.flat] at f
  | .tup ds, _, r, f => by
    cases r with
    | tup st ra =>
      rw [D.dat]
      exact .tup st.sq (rep_dps ds _ ra (by simpa [D.flat] using f))
theorem rep_dps : ∀ (ds : List D) (vs : List V), RepAll X.K H μ n ds vs → D.flats ds = true → DpAll X.K H vs (D.dats ds)
  | [], _, r, _ => by cases r; exact .nil
  | d :: ds, _, r, f => by
    rw [D.flats, Bool.and_eq_true] at f
    cases r with
    | cons r1 r2 => exact .cons (rep_dp d _ r1 f.1) (rep_dps ds _ r2 f.2)
end
/-- u stands for d -/
def Rv (K : PySem.W.Frag) (H : Hp) (μ : Nat → Addr) (n : Nat) (u : Value) (d : D) : Prop := ∃ v, RelV v u ∧ Rep K H μ n d v
theorem rv_each : ∀ {ds : List D} {vs : List V} {us : List Value}, RepAll X.K H μ n ds vs → Vals vs us → EachIs (Rv X.K H μ n) us ds
  | [], _, _, r, rv => by cases r; cases rv; exact .nil
  | d :: ds, _, _, r, rv => by
    cases r with
    | cons r1 r2 =>
      cases rv with
      | cons v1 v2 => exact .cons ⟨_, v1, r1⟩ (rv_each r2 v2)
theorem each_rv : ∀ {ds : List D} {us : List Value}, EachIs (Rv X.K H μ n) us ds → ∃ vs, Vals vs us ∧ RepAll X.K H μ n ds vs
  | [], _, r => by cases r; exact ⟨[], .nil, .nil⟩
  | d :: ds, _, r => by
    cases r with
    | cons r1 r2 =>
      obtain ⟨v, a, b⟩ := r1
      obtain ⟨vs, c, e⟩ := each_rv r2
      exact ⟨v :: vs, .cons a c, .cons b e⟩
theorem okData_fine {P : D → Prop} (F : Fine P) {ds : List D} (h : ∀ d ∈ ds, P d) : Ms.okData (ds.map D.dat) = true := by
  refine List.all_eq_true.mpr fun x hx => ?_
  obtain ⟨d, hd, rfl⟩ := List.mem_map.mp hx
  have al : (ds.map D.dat).all (PySem.W.alike d.dat) = true := List.all_eq_true.mpr fun y hy => by
    obtain ⟨e, he, rfl⟩ := List.mem_map.mp hy
    exact F.al d e (h d hd) (h e he)
  cases F.pur d (h d hd) with
  | int i => exact al
  | tup _ => exact al

/-- the sort behind a collection: vs stand for ds; the new list at p -/
theorem sortCall {A2 : Around} {E : Value → Shared → Prop} {us : List Value} {ds es : List D} {P : D → Prop} (I : Inv X pins σ H s) (rv : EachIs (Rv X.K H μ n) us ds)
    (F : Fine P) (hP : ∀ d ∈ ds, P d) (lo : ∀ d ∈ ds, d.low 40 = true) (ee : isort ds = es) (hL : ds.length ≤ sizeLine) (hu : A2.units + 50 < cLine) {Q : VK}
    (q : ∀ (p : Addr) (ws : List V), H p = none → RepAll X.K H μ n es ws → Q (.ref p) (upd H p (.lst ws))) :
    wpAny (model X.prog X.w) A2 (call (.builtin "list.sort") [.ref s.heap.objs.size]) (fun _ s' => EP X pins σ Q (.ref s.heap.objs.size) s') E { s with heap := s.heap.push (seqObj "list" us.toArray 0) } := by
  have hoL : (s.heap.push (seqObj "list" us.toArray 0)).get? s.heap.objs.size = some (seqObj "list" us.toArray 0) := Heap.get?_push_size _ rfl
  have old : ∀ b o, s.heap.get? b = some o → (PySem.W.sortingHeap (s.heap.push (seqObj "list" us.toArray 0)) s.heap.objs.size us).get? b = some o := fun b o e =>
    PySem.W.sortingHeap_old (Nat.ne_of_lt (Heap.lt_size e)) (Heap.get?_push_of_some _ e)
  have er : EachIs (fun v d => ∃ as, Reads s.heap v (D.dat d) as) us ds := by
    have go : ∀ {us : List Value} {ds : List D}, EachIs (Rv X.K H μ n) us ds → (∀ d ∈ ds, P d) → EachIs (fun v d => ∃ as, Reads s.heap v (D.dat d) as) us ds := by
      intro us ds x
      induction x with
      | nil => intro _; exact .nil
      | cons r _ ih =>
        intro h
        obtain ⟨v, a, b⟩ := r
        exact .cons (Dp.reads I _ _ _ (rep_dp _ _ b (pur_flat (F.pur _ (h _ List.mem_cons_self)))) a) (ih fun d hd => h d (List.mem_cons_of_mem _ hd))
    exact go rv hP
  have er' : EachIs (fun v d => ∃ as, Reads (PySem.W.sortingHeap (s.heap.push (seqObj "list" us.toArray 0)) s.heap.objs.size us) v (D.dat d) as) us ds := er.mono fun _ _ ⟨as, r⟩ => ⟨as, PyProof.Rows.Reads.keeps (fun b o e => old b o e) r⟩
  have lu : us.length = ds.length := rv.length
  obtain ⟨hal, S⟩ := Ms.sortsAt (prog := X.prog) (w := X.w) (A := A2.in1) (s := { s with heap := PySem.W.sortingHeap (s.heap.push (seqObj "list" us.toArray 0)) s.heap.objs.size us })
    (PySem.W.each_map (R := fun v d => ∃ as, Reads (PySem.W.sortingHeap (s.heap.push (seqObj "list" us.toArray 0)) s.heap.objs.size us) v d as) D.dat er') (okData_fine F hP) (fun d hd => by
      obtain ⟨e, he, rfl⟩ := List.mem_map.mp hd
      have := low_dat 40 e (lo e he)
      simp only [Around.in1_units]
      omega)
  have out := PySem.W.sortVals_data (h' := PySem.W.sortingHeap (s.heap.push (seqObj "list" us.toArray 0)) s.heap.objs.size us) false rv er' hal
  rw [mergeSort_eq F hP, ee] at out
  obtain ⟨ws, w1, w2⟩ := each_rv out
  have hn : H s.heap.objs.size = none := I.hok.fresh (Nat.le_refl _)
  have lw : ws.length ≤ sizeLine := by
    have e1 := w2.length
    rw [← ee, (isort_perm ds).length_eq] at e1
    omega
  obtain ⟨c, hc⟩ := PyProof.Rows.sortedHeap_at (vs := us) (out := (PySem.W.sortVals (PySem.W.dataKind (PySem.W.sortingHeap (s.heap.push (seqObj "list" us.toArray 0)) s.heap.objs.size us) (ds.map D.dat)) false us us).toArray) hoL
  have kp : ∀ b u, s.heap.get? b = some u → (PyProof.Rows.sortedHeap (s.heap.push (seqObj "list" us.toArray 0)) s.heap.objs.size us (PySem.W.sortVals (PySem.W.dataKind (PySem.W.sortingHeap (s.heap.push (seqObj "list" us.toArray 0)) s.heap.objs.size us) (ds.map D.dat)) false us us).toArray).get? b = some u := fun b u e => by
    have hb : b < s.heap.objs.size := Heap.lt_size e
    rw [PyProof.Rows.sortedHeap_old (Nat.ne_of_lt hb) (by rw [size_push']; exact Nat.lt_succ_of_lt hb)]
    exact Heap.get?_push_of_some _ e
  refine wpAny_call_entry PyProof.Rows.slot_list_sort ⟨_, hoL, rfl⟩ PyProof.Rows.entry_list_sort
    (PySem.W.list_sort_vals (s := { s with heap := s.heap.push (seqObj "list" us.toArray 0) }) hoL S (by rw [lu]; exact hL) ⟨_, rfl, ?_⟩) (PyProof.Rows.args_list_sort _)
  exact ⟨.ref s.heap.objs.size, upd H s.heap.objs.size (.lst ws), I.laid (t' := s.toks) kp (Nat.le_refl _)
    (show ObjOk X.prog X.w _ _ _ (.lst ws) from ⟨lw, _, c, w1, hc⟩), rfl, q _ ws hn w2⟩
end
end Mi
set_option Elab.async false
set_option linter.all false
set_option autoImplicit false
set_option maxHeartbeats 1600000
namespace Mi
open PySem PySem.Spec PyProof.Rows L2 Mset
open PySem.W (EachIs)

section
variable {prog : Program} {w : World} {A : Around} {E : Value → Shared → Prop} {s : Shared}
/-- the members of a tuple, gathered into a list -/
theorem collectTup {l : Addr} {vs : List Value} {Q : List Value → Shared → Prop} (hl : s.heap.IsTuple l vs.toArray)
    (h : Q vs { s with heap := (s.heap.push (seqObj "list" #[] 0)).update s.heap.objs.size (Obj.mapSeq (· ++ vs.toArray)) }) (hsz : vs.length ≤ sizeLine) :
    wpAny (model prog w) A (collect (.ref l)) Q E s := by
  obtain ⟨o, ho, hc, n, hd⟩ := id hl
  unfold collect
  refine wpAny_bind (wpAny_runValue (codeAny_builtin entry_proto_collect' ?_))
  show wpAny _ _ (do again (.builtin "list.__iadd__" ⟨[← newList [], .ref l], []⟩)) _ _ s
  refine wpAny_bind (wpAny_newList (wpAny_pure ⟨Code.quiet_builtin _ (by decide +kernel), codeAny_builtin entry_list_iadd' ?_⟩))
  show wpAny _ _ (Builtin.List.listExtendWith (.ref s.heap.objs.size) (.ref l) (.ref s.heap.objs.size)) _ _ { s with heap := s.heap.push (seqObj "list" #[] 0) }
  unfold Builtin.List.listExtendWith
  have kept : (s.heap.push (seqObj "list" #[] 0)).get? l = some o := Heap.get?_push_of_some _ ho
  refine wpAny_bind (wpAny_typeOf (T := "tuple") ⟨o, kept, hc⟩ ?_)
  have tt : (Value.type "tuple" == Value.type "tuple") = true := by rfl
  rw [if_pos (by rw [tt]; simp)]
  refine wpAny_bind (listItems_at kept hd ?_)
  refine wpAny_bind (listItems_at (xs := #[]) (n := 0) (Heap.get?_push_size _ rfl) rfl ?_)
  rw [if_neg (by simp)]
  refine wpAny_bind (listUpdate_at (xs := #[]) (n := 0) (Heap.get?_push_size _ rfl) rfl ?_ (Nat.zero_le _) (by show (#[] ++ vs.toArray).size ≤ sizeLine + 1; simp only [Array.size_append, List.size_toArray, List.length_nil]; omega))
  refine wpAny_pure ?_
  refine wpAny_bind (wpAny_load (get?_update_seq (Heap.get?_push_size _ rfl) _) ?_)
  show wpAny _ _ (pure ((#[] : Array Value) ++ vs.toArray).toList) Q E _
  rw [show ((#[] : Array Value) ++ vs.toArray).toList = vs by simp]
  exact wpAny_pure h
theorem gather_old {vs : List Value} {b : Addr} {o : Obj} (e : s.heap.get? b = some o) : ((s.heap.push (seqObj "list" #[] 0)).update s.heap.objs.size (Obj.mapSeq (· ++ vs.toArray))).get? b = some o := by
  rw [Heap.get?_update_other _ _ (Ne.symm (Nat.ne_of_lt (Heap.lt_size e)))]
  exact Heap.get?_push_of_some _ e
end

section
variable {X : Cx}
def rSortD (K : PySem.W.Frag) : List V → Hp → VK → Prop := fun xs H Q => ∃ (a : Addr) (vs : List V) (ds es : List D) (P : D → Prop) (μ : Nat → Addr) (n : Nat), xs = [.ref a] ∧ (SqL K H a vs ∨ SqT K H a vs) ∧ RepAll K H μ n ds vs ∧ Fine P ∧ (∀ d ∈ ds, P d) ∧
  (∀ d ∈ ds, d.low 40 = true) ∧ isort ds = es ∧ ∀ (p : Addr) (ws : List V), H p = none → RepAll K H μ n es ws → Q (.ref p) (upd H p (.lst ws))
theorem cr_sortD (hu : X.A.units + 64 < cLine) : CallR X (.builtin "sorted") (rSortD X.K) := by
  intro pins s σ H xs us0 Q I r h
  obtain ⟨a, vs, ds, es, P, μ, n, rfl, hs, ra, F, hP, lo, ee, q⟩ := h
  rw [Vals.ref1 r]
  have fin : ∀ (us : List Value), Vals vs us → us.length ≤ sizeLine → wpAny (model X.prog X.w) X.A.in1 (do
      let l ← newList us
      let _ ← holding [l] (call (.builtin "list.sort") [l] [])
      ret l) (fun f s' => ∃ v, f = .done (.ret v) ∧ EP X pins σ Q v s') X.xe { s with heap := (s.heap.push (seqObj "list" #[] 0)).update s.heap.objs.size (Obj.mapSeq (· ++ us.toArray)) } := by
    intro us rv hz
    have I1 : Inv X pins σ H { s with heap := (s.heap.push (seqObj "list" #[] 0)).update s.heap.objs.size (Obj.mapSeq (· ++ us.toArray)) } := I.kept (t' := s.toks) fun b u e => gather_old e
    refine wpAny_bind (wpAny_newList ?_ hz)
    refine wpAny_bind (wpAny_holding ?_)
    refine wpAny_mono (sortCall (X := X) (s := { s with heap := (s.heap.push (seqObj "list" #[] 0)).update s.heap.objs.size (Obj.mapSeq (· ++ us.toArray)) }) (A2 := X.A.in1) (Q := Q) I1 (rv_each ra rv) F hP lo ee (by rw [ra.length, rv.length]; exact hz) (by simp only [Around.in1_units]; omega) q) (fun _ s' x => ?_) fun _ _ e => e
    exact wpAny_pure ⟨_, rfl, x⟩
  refine Calls.call_function_entry kind_sorted plain_sorted entry_sorted (args_sorted1 _) ?_
  unfold Builtin.«sorted»
  refine wpAny_bind (m := checkCount "sorted" 1 1 _) (wpAny_pure ?_)
  rcases hs with hs | hs
  · obtain ⟨its, rv, pl, hz⟩ := I.list hs
    have hz' : its.length ≤ sizeLine := by rw [← rv.length]; exact hz
    exact wpAny_bind (collect_list pl.isList (fin its rv hz') hz')
  · obtain ⟨its, rv, ⟨o, ho, hc, m, hd⟩, hz⟩ := I.tuple hs
    have hz' : its.length ≤ sizeLine := by rw [← rv.length]; exact hz
    exact wpAny_bind (collectTup ⟨o, ho, hc, m, hd⟩ (fin its rv hz') hz')
end

/-- the set at a, without its members -/
def SetGO (w : World) (a : Addr) (L : Rw) : HO := .ext fun h => ∃ (es : Array (Int × Value)) (ep : Nat) (t : SetTable), (∃ o, h.get? a = some o ∧ o.ExactSet ∧ o.data = .set es ep t) ∧ es.toList = ent w L ∧ TabOk t (hs_ w L) ∧ (L.map (·.2)).Nodup ∧ t.plain = true ∧
  (w.params.followText "set-order" = true ∨ t.led = true) ∧ L.length * 5 < t.mask * 3 ∧ L.length ≤ 76
theorem setGO_new {P : Program} {w : World} {H : Hp} {h : Heap} {a : Addr} {L : Rw} {es : Array (Int × Value)} {ep : Nat} {t : SetTable} (R : SetG w h a L es ep t) : ObjOk P w H h a (SetGO w a L) := by
  refine ⟨⟨es, ep, t, R.ob, R.rows, R.tab, R.nd, R.plain, R.led, R.room, R.few⟩, (let ⟨o, ho, _⟩ := R.ob; ⟨o, ho⟩), fun h1 h2 p k => ?_⟩
  have ⟨es', ep', t', ⟨o', ho', r'⟩, q'⟩ := p
  exact ⟨es', ep', t', ⟨o', k o' ho', r'⟩, q'⟩

section
variable {X : Cx}
/-- rows: tuples of the mirror with their places and keys -/
def KyD (K : PySem.W.Frag) (H : Hp) (μ : Nat → Addr) (n : Nat) (d : D) (p : Addr × NestedKey) : Prop := d.key = some p.2 ∧ Rep K H μ n d (.ref p.1) ∧ d.low 8 = true ∧ nu p.2 = true
theorem vals_refs : ∀ {ks : Rw} {us : List Value}, Vals (ks.map fun p => V.ref p.1) us → us = ks.map fun p => Value.ref p.1
  | [], _, .nil => rfl
  | p :: ks, _, .cons r t => by
    cases r
    rw [vals_refs t] <;> rfl
def rSetG (K : PySem.W.Frag) (w : World) : List V → Hp → VK → Prop := fun xs H Q => ∃ (l : Addr) (ks : Rw) (ds : List D) (μ : Nat → Addr) (n : Nat), xs = [V.ref l] ∧ SqL K H l (ks.map fun p => V.ref p.1) ∧ EachIs (fun p d => KyD K H μ n d p) ks ds ∧ Few ks ∧
  ∀ a L, H a = none → (∀ p ∈ L, p ∈ ks) → (∀ p ∈ ks, p.2 ∈ L.map (·.2)) → (L.map (·.2)).Nodup → Q (.ref a) (upd H a (SetGO w a L))
theorem cr_setG (hc : X.calm = true) (hu : X.A.units + 64 < cLine) : CallR X (.type "set") (rSetG X.K X.w) := by
  intro pins s σ H xs us Q I r h
  obtain ⟨l, ks, ds, μ, n, rfl, hl, hk, hf, q⟩ := h
  rw [Vals.ref1 r]
  obtain ⟨its, rv, pl, hz⟩ := I.list hl
  have hn : H s.heap.objs.size = none := I.hok.fresh (Nat.le_refl _)
  refine callSetG (P := X.prog) (w := X.w) ks (I.ok.hd hc) pl.isList (by simpa using vals_refs rv) (fun p hp => ?_) hf (by omega) fun h' tk L es ep t R g k => ?_
  · obtain ⟨d, hd, e1, e2, e3, e4⟩ := hk.left p hp
    exact ⟨rep_key I d p.2 _ _ e2 rfl e1, low_key 8 d _ e3 e1, e4⟩
  · refine ⟨.ref s.heap.objs.size, upd H s.heap.objs.size (SetGO X.w s.heap.objs.size L), I.laid (t' := tk) k (Nat.le_refl _) (setGO_new R), rfl, q _ L hn (fun p hp => ?_) (fun p hp => ?_) R.nd⟩
    · exact List.mem_of_mem_take (g.sub p hp)
    · exact g.all p (by rw [List.take_length]; exact hp)
def rSortG (K : PySem.W.Frag) (w : World) : List V → Hp → VK → Prop := fun vs H Q => ∃ (a : Addr) (L : Rw) (ds es : List D) (P : D → Prop) (μ : Nat → Addr) (n : Nat), vs = [V.ref a] ∧ H a = some (SetGO w a L) ∧ EachIs (fun p d => KyD K H μ n d p) L ds ∧ Fine P ∧ (∀ d ∈ ds, P d) ∧
  (∀ ds' : List D, ds'.Perm ds → isort ds' = es) ∧ ∀ (p : Addr) (ws : List V), H p = none → RepAll K H μ n es ws → Q (.ref p) (upd H p (.lst ws))
theorem low_mono : ∀ (n m : Nat) (d : D), n ≤ m → d.low n = true → d.low m = true
  | _, _, .non, _, _ => by simp [D.low]
  | _, _, .bl _, _, _ => by simp [D.low]
  | _, _, .int _, _, _ => by simp [D.low]
  | _, _, .str _, _, _ => by simp [D.low]
  | _, _, .ref _, _, _ => by simp [D.low]
  | 0, _, .tup ds, _, h => by simp [D.low] at h
  | n + 1, 0, .tup ds, hl, h => by omega
  | n + 1, m + 1, .tup ds, hl, h => by
    rw [D.low, List.all_eq_true] at h ⊢
    exact fun d hd => low_mono n m d (by omega) (h d hd)
/-- a permutation of one side takes the other with it -/
theorem each_perm {α β : Type} {R : α → β → Prop} {as as' : List α} (p : as'.Perm as) : ∀ {bs : List β}, EachIs R as bs → ∃ bs', bs'.Perm bs ∧ EachIs R as' bs' := by
  induction p with
  | nil => intro bs x; exact ⟨bs, .refl _, x⟩
  | cons a _ ih =>
    intro bs x
    cases x with
    | cons r t =>
      obtain ⟨b', p', x'⟩ := ih t
      exact ⟨_ :: b', p'.cons _, .cons r x'⟩
  | swap a b l =>
    intro bs x
    cases x with
    | cons r t =>
      cases t with
      | cons r2 t2 => exact ⟨_, List.Perm.swap .., .cons r2 (.cons r t2)⟩
  | trans _ _ ih1 ih2 =>
    intro bs x
    obtain ⟨b1, p1, x1⟩ := ih2 x
    obtain ⟨b2, p2, x2⟩ := ih1 x1
    exact ⟨b2, p2.trans p1, x2⟩
theorem cr_sortG (hc : X.calm = true) (hu : X.A.units + 64 < cLine) : CallR X (.builtin "sorted") (rSortG X.K X.w) := by
  intro pins s σ H vs us Q I r h
  obtain ⟨a, L, ds, es, P, μ, n, rfl, ha, hk, F, hP, ee, q⟩ := h
  have R0 := (I.hok a _ ha).1
  obtain ⟨xs, ep, t, ⟨o, ho, hex, hd⟩, rows, tab, nd, pl, ld, rm, few⟩ := R0
  have R : SetG X.w s.heap a L xs ep t := ⟨⟨o, ho, hex, hd⟩, rows, tab, nd, fun p hp => by
    obtain ⟨d, hd, e1, e2, e3, e4⟩ := hk.left p hp
    exact ⟨rep_key I d p.2 _ _ e2 rfl e1, low_key 8 d _ e3 e1, e4⟩, pl, ld, rm, few⟩
  rw [Vals.ref1 r]
  have sz := entLen rows
  refine Calls.call_function_entry kind_sorted plain_sorted entry_sorted (args_sorted1 _) ?_
  unfold Builtin.«sorted»
  refine wpAny_bind (m := checkCount "sorted" 1 1 _) (wpAny_pure ?_)
  refine wpAny_bind (collect_set (A := X.A.in1) (I.ok.hd hc) ⟨o, ho, hex.1, hd⟩ R.fit (by unfold scanBound; omega) tab.ris ld fun s1 out k1 hz g1 o1 pm => ?_)
  have hes : xs.toList.map (·.2) = L.map fun q => Value.ref q.1 := by
    rw [rows]
    unfold ent
    rw [List.map_map] <;> rfl
  rw [hes] at pm
  have x : EachIs (Rv X.K H μ n) (L.map fun q => Value.ref q.1) ds := by
    have go : ∀ {L : Rw} {ds : List D}, EachIs (fun p d => KyD X.K H μ n d p) L ds → EachIs (Rv X.K H μ n) (L.map fun q => Value.ref q.1) ds := by
      intro L ds x
      induction x with
      | nil => exact .nil
      | cons r _ ih => exact .cons ⟨.ref _, rfl, r.2.1⟩ ih
    exact go hk
  obtain ⟨ds', pd, x'⟩ := each_perm pm x
  have low8 : ∀ {L : Rw} {ds : List D}, EachIs (fun p d => KyD X.K H μ n d p) L ds → ∀ d ∈ ds, d.low 8 = true := by
    intro L ds x
    induction x with
    | nil => intro d hd; cases hd
    | cons r _ ih =>
      intro d hd
      rcases List.mem_cons.mp hd with e | hd
      · rw [e]; exact r.2.2.1
      · exact ih d hd
  have lenL : L.length = ds.length := hk.length
  have hlen : ds'.length ≤ 76 := by rw [pd.length_eq, ← lenL]; exact few
  have ol : out.length = ds'.length := x'.length
  have e1 : s1 = { s with heap := s1.heap, gens := s1.gens, drawn := s1.drawn, toks := s1.toks } := by
    cases s1
    cases s
    cases o1
    rfl
  have I1 : Inv X pins σ H s1 := by
    rw [e1]
    exact I.call (ch := []) (Un.kept k1) (I.hok.kept k1) (by rw [g1]; exact I.bare) fun _ z => nomatch z
  refine wpAny_bind (wpAny_newList ?_ (by rw [sizeLine_eq]; omega))
  refine wpAny_bind (wpAny_holding ?_)
  refine wpAny_mono (sortCall (X := X) (s := s1) (A2 := X.A.in1) (Q := Q) I1 x' F (fun d hd => hP d (pd.mem_iff.mp hd)) (fun d hd => low_mono 8 40 d (by decide) (low8 hk d (pd.mem_iff.mp hd))) (ee ds' pd) (by rw [sizeLine_eq]; omega) (by simp only [Around.in1_units]; omega) q) (fun _ s' x => ?_) fun _ _ e => e
  exact wpAny_pure ⟨_, rfl, x⟩
end

section
variable {P : D → Prop} (F : Fine P)
include F
abbrev Dlt (x y : D) : Prop := PySem.W.dataLt x.dat y.dat = true
omit F in
theorem Dlt.le {x y : D} (h : Dlt x y) : Dle x y := by
  show PySem.W.dataLt y.dat x.dat = false
  cases q : PySem.W.dataLt y.dat x.dat with
  | false => rfl
  | true =>
    have tr := (listOrd itemOrd).trans _ _ _ h q
    exact absurd (tr.symm.trans ((listOrd itemOrd).irrefl (PySem.W.keyToks x.dat))) (by decide)
omit F in
theorem Dlt.ne {x y : D} (h : Dlt x y) : x ≠ y := fun e => by
  subst e
  exact absurd (h.symm.trans ((listOrd itemOrd).irrefl (PySem.W.keyToks x.dat))) (by decide)
theorem uins_in {x : D} (hx : P x) {l : List D} (hl : ∀ d ∈ l, P d) (d : D) (hd : P d) : d ∈ uins x l ↔ d = x ∨ d ∈ l :=
  uins_mem x l d (fun e => (F.eq hx hd).mp e) fun y hy e => (F.eq hx (hl y hy)).mp e
theorem uins_P {x : D} (hx : P x) : ∀ {l : List D}, (∀ d ∈ l, P d) → ∀ d ∈ uins x l, P d
  | [], _, d, hd => by rw [List.mem_singleton.mp hd]; exact hx
  | y :: r, hl, d, hd => by
    unfold uins at hd
    split at hd
    · rcases List.mem_cons.mp hd with e | hd
      · rw [e]; exact hl y List.mem_cons_self
      · exact uins_P hx (fun z hz => hl z (List.mem_cons_of_mem _ hz)) d hd
    · exact hl d hd
    · rcases List.mem_cons.mp hd with e | hd
      · rw [e]; exact hx
      · exact hl d hd
theorem uins_sorted {x : D} (hx : P x) : ∀ {l : List D}, (∀ d ∈ l, P d) → l.Pairwise Dlt → (uins x l).Pairwise Dlt
  | [], _, _ => List.pairwise_singleton _ _
  | y :: r, hl, hs => by
    have hy := hl y List.mem_cons_self
    have hr : ∀ d ∈ r, P d := fun z hz => hl z (List.mem_cons_of_mem _ hz)
    obtain ⟨h1, h2⟩ := List.pairwise_cons.mp hs
    unfold uins
    split
    · rename_i q
      refine List.pairwise_cons.mpr ⟨fun z hz => ?_, uins_sorted hx hr h2⟩
      have hz' : P z := uins_P F hx hr z hz
      rcases (uins_in F hx hr z hz').mp hz with e | hz
      · rw [e]
        exact (F.gt hx hy).mp q
      · exact h1 z hz
    · exact hs
    · rename_i q
      have lt : Dlt x y := (F.lt hx hy).mpr q
      refine List.pairwise_cons.mpr ⟨fun z hz => ?_, hs⟩
      rcases List.mem_cons.mp hz with e | hz
      · rw [e]; exact lt
      · exact (listOrd itemOrd).trans _ _ _ lt (h1 z hz)
theorem usort_all : ∀ {l : List D}, (∀ d ∈ l, P d) → (∀ d ∈ usort l, P d) ∧ (usort l).Pairwise Dlt ∧ ∀ d, P d → (d ∈ usort l ↔ d ∈ l)
  | [], _ => ⟨fun _ h => (nomatch h), List.Pairwise.nil, fun _ _ => Iff.rfl⟩
  | x :: r, h => by
    have hx := h x List.mem_cons_self
    obtain ⟨a, b, c⟩ := usort_all (l := r) fun d hd => h d (List.mem_cons_of_mem _ hd)
    refine ⟨uins_P F hx a, uins_sorted F hx a b, fun d hd => ?_⟩
    show d ∈ uins x (usort r) ↔ _
    rw [uins_in F hx a d hd, c d hd, List.mem_cons]
theorem usort_eq {l m : List D} (hl : ∀ d ∈ l, P d) (nm : m.Nodup) (hm : ∀ d, d ∈ m ↔ d ∈ l) : isort m = usort l := by
  obtain ⟨a, b, c⟩ := usort_all F hl
  have hmP : ∀ d ∈ m, P d := fun d hd => hl d ((hm d).mp hd)
  have nu1 : (usort l).Nodup := b.imp fun h => h.ne
  have pm : m.Perm (usort l) := (List.perm_ext_iff_of_nodup nm nu1).mpr fun d => ⟨fun hd => (c d (hmP d hd)).mpr ((hm d).mp hd), fun hd => (hm d).mpr ((c d (a d hd)).mp hd)⟩
  exact sorted_unique F ((isort_perm m).trans pm) (fun d hd => hmP d ((isort_perm m).mem_iff.mp hd)) (isort_sorted F hmP) (b.imp fun h => h.le)
end
end Mi
set_option Elab.async false
set_option linter.all false
set_option autoImplicit false
set_option maxHeartbeats 1600000
namespace Mi
open PySem PySem.Spec PyProof.Rows L2 Mset
open PySem.W (EachIs)

def lenOk {α : Type} (xs : List α) : Bool := Nat.ble xs.length 100000
theorem lenOk_line {α : Type} {xs : List α} (h : lenOk xs = true) : xs.length ≤ sizeLine := by
  have := Nat.ble_eq.mp h
  rw [sizeLine_eq]
  omega
/-- what a value's items are -/
def seqD (d : D) (h : MH) : Option (List D) := match d with
  | .tup ds => some ds
  | .ref i => match h.get i with
    | some (.lst _ ds) => some ds
    | some (.frz ds) => some ds
    | _ => none
  | _ => none
def lstD (d : D) (h : MH) : Option (List D) := match d with
  | .ref i => match h.get i with
    | some (.lst _ ds) => some ds
    | some (.frz ds) => some ds
    | _ => none
  | _ => none
/-- a list that is the small heap's own -/
def ownD (d : D) (h : MH) : Option (Nat × Nat × List D) := match d with
  | .ref i => match h.get i with
    | some (.lst k ds) => some (i, k, ds)
    | _ => none
  | _ => none
section
variable {P : Program} {w : World} {K : PySem.W.Frag} {H : Hp} {μ : Nat → Addr} {h : MH} {d : D} {v : V} {ds : List D}
theorem ownD_of (hr : HRep P w K H μ h) (r : Rep K H μ h.n d v) {i k : Nat} (e : ownD d h = some (i, k, ds)) : d = .ref i ∧ i < h.n ∧ h.get i = some (.lst k ds) ∧ v = .ref (μ i) ∧ ∃ vs, H (μ i) = some (.lst vs) ∧ RepAll K H μ h.n ds vs := by
  unfold ownD at e
  cases d with
  | ref j =>
    cases r with
    | ref hj =>
      obtain ⟨o, e1, e2⟩ := hr.obj j hj
      simp only [e1] at e
      cases o with
      | lst lk es =>
        simp only [Option.some.injEq, Prod.mk.injEq] at e
        obtain ⟨rfl, rfl, rfl⟩ := e
        exact ⟨rfl, hj, e1, rfl, e2⟩
      | _ => cases e
  | _ => cases e
theorem lstD_of (hr : HRep P w K H μ h) (r : Rep K H μ h.n d v) (e : lstD d h = some ds) : ∃ a vs, v = .ref a ∧ SqL K H a vs ∧ RepAll K H μ h.n ds vs := by
  unfold lstD at e
  cases d with
  | ref j =>
    cases r with
    | ref hj =>
      obtain ⟨o, e1, e2⟩ := hr.obj j hj
      simp only [e1] at e
      cases o with
      | lst lk es =>
        simp only [Option.some.injEq] at e
        subst e
        obtain ⟨vs, a, b⟩ := e2
        exact ⟨_, vs, rfl, SqL.of a, b⟩
      | frz es =>
        simp only [Option.some.injEq] at e
        subst e
        obtain ⟨vs, a, b⟩ := e2
        refine ⟨_, vs, rfl, ?_, b⟩
        rcases a with ⟨o, a⟩ | a
        · exact .inl (.inr ⟨o, a⟩)
        · exact .inr a
      | _ => cases e
  | _ => cases e
theorem seqD_of (hr : HRep P w K H μ h) (r : Rep K H μ h.n d v) (e : seqD d h = some ds) : ∃ a vs, v = .ref a ∧ (SqL K H a vs ∨ SqT K H a vs) ∧ RepAll K H μ h.n ds vs := by
  cases d with
  | tup es =>
    cases r with
    | tup st ra =>
      simp only [seqD, Option.some.injEq] at e
      subst e
      exact ⟨_, _, rfl, .inr st.sq, ra⟩
  | ref j =>
    obtain ⟨a, vs, x, y, z⟩ := lstD_of hr r (ds := ds) (by simpa [seqD, lstD] using e)
    exact ⟨a, vs, x, .inl y, z⟩
  | _ => cases e
end

section
variable {X : Cx} {pins : List (Addr × Obj)} {σ : L2.St} {H : Hp} {s : Shared}
theorem tupLaid {h' : Heap} {p : Addr} {o : Obj} {vs : List V} {its : List Value} {n t' : Nat} (I : Inv X pins σ H s) (kp : ∀ b u, s.heap.get? b = some u → h'.get? b = some u) (hp : s.heap.objs.size ≤ p) (ho : h'.get? p = some o) (oc : o.cls = .type "tuple") (od : o.data = .seq its.toArray n)
    (rv : Vals vs its) (z : vs.length ≤ sizeLine) : Inv X pins σ (upd H p (.frz o (.tup vs))) { s with heap := h', toks := t' } :=
  I.laid kp hp ⟨ho, z, its, rv, o, ho, oc, n, od⟩
/-- the end of a rule that lays a tuple -/
theorem tupEnd {K : PySem.W.Frag} {h' : Heap} {p : Addr} {o : Obj} {vs : List V} {its : List Value} {n t' : Nat} {μ : Nat → Addr} {m : MH} {ds : List D} {Q : VK} (I : Inv X pins σ H s) (kp : ∀ b u, s.heap.get? b = some u → h'.get? b = some u) (hp : s.heap.objs.size ≤ p) (ho : h'.get? p = some o) (oc : o.cls = .type "tuple") (od : o.data = .seq its.toArray n) (dn : o.dict = none)
    (rv : Vals vs its) (z : vs.length ≤ sizeLine) (hr : HRep X.prog X.w X.K H μ m) (ra : RepAll X.K H μ m.n ds vs) (br : BR X.prog X.w X.K (rpD X.K) H μ m (.ok (.tup ds) m) Q) : EP X pins σ Q (.ref p) { s with heap := h', toks := t' } :=
  ⟨.ref p, _, tupLaid I kp hp ho oc od rv z, rfl, newTup hr ra (I.hok.fresh hp) br dn⟩
end

section
variable {X : Cx} {e : Expr} {es : List Expr} {m : ME} {ma : MA} {pos : Pos}
def mNil : MA := fun _ h => .ok [] h
def mCons (m : ME) (ma : MA) : MA := fun env h => (m env h).bind fun d h1 => (ma env h1).bind fun ds h2 => .ok (d :: ds) h2
def mStar (m : ME) (ma : MA) : MA := fun env h => (m env h).bind fun d h1 => match seqD d h1 with
  | some es => (ma env h1).bind fun ds h2 => .ok (es ++ ds) h2
  | none => .err
theorem mxA.mono {σ : L2.St} {H : Hp} {Q Q' : List V → Hp → Prop} (x : mxA X es σ H Q) (m : ∀ v H', Q v H' → Q' v H') : mxA X es σ H Q' := fun pos pins s I =>
  wpAny_mono (x pos pins s I) (fun _ _ ⟨v, H', a, b, q⟩ => ⟨v, H', a, b, m _ _ q⟩) fun _ _ z => z
theorem ImplA.seq (he : ImplA X es ma) {env : Ev} {h : MH} {σ : L2.St} {H : Hp} {μ : Nat → Addr} (hr : HRep X.prog X.w X.K H μ h) (er : ERep X.K H μ h.n env σ)
    {α β : Type} {rp : Hp → (Nat → Addr) → Nat → α → β → Prop} {f : List D → MH → R α} {Q : β → Hp → Prop} (br : BR X.prog X.w X.K rp H μ h ((ma env h).bind f) Q) {Q' : List V → Hp → Prop}
    (k : ∀ vs H1 ds μ1 h1, HRep X.prog X.w X.K H1 μ1 h1 → ERep X.K H1 μ1 h1.n env σ → Post X.prog X.w X.K H μ h H1 μ1 h1 → RepAll X.K H1 μ1 h1.n ds vs → BR X.prog X.w X.K rp H1 μ1 h1 (f ds h1) Q → Q' vs H1) :
    mxA X es σ H Q' :=
  (he env h σ H μ _ hr er (BR.bind (rp := rpL X.K) hr br)).mono fun v H1 ⟨d, μ1, h1, p, r, q⟩ => k v H1 d μ1 h1 p.rep (p.er hr er) p r q
theorem ia_nil : ImplA X [] mNil := by
  intro env h σ H μ Q hr er br
  exact mxA.of pa_nil (br.pure hr .nil)
theorem ia_cons (he : ImplE X e m) (ha : ImplA X es ma) (hs : starEach (e :: es) X.env = (false, eval e X.env) :: starEach es X.env := by rfl) : ImplA X (e :: es) (mCons m ma) := by
  intro env h σ H μ Q hr er br
  refine mxA.of (pa_cons peX paX hs) ?_
  refine he.seq hr er br fun v H1 d μ1 h1 hr1 er1 p1 r1 br1 => ?_
  refine ha.seq hr1 er1 br1 fun vs H2 ds μ2 h2 hr2 er2 p2 r2 br2 => ?_
  exact br2.pure hr2 (.cons (p2.rp hr1 r1) r2)
theorem ia_star {p : Pos} (he : ImplE X e m) (ha : ImplA X es ma) (hs : starEach (.Starred e p :: es) X.env = (true, eval e X.env) :: starEach es X.env := by rfl) : ImplA X (.Starred e p :: es) (mStar m ma) := by
  intro env h σ H μ Q hr er br
  refine mxA.of (StX.pa_star peX paX hs) ?_
  refine he.seq hr er br fun v H1 d μ1 h1 hr1 er1 p1 r1 br1 => ?_
  cases q : seqD d h1 with
  | none => simp only [q] at br1; exact False.elim br1
  | some xs =>
    simp only [q] at br1
    obtain ⟨a, vs, rfl, sq, ra⟩ := seqD_of hr1 r1 q
    refine ⟨a, vs, rfl, sq.symm, ?_⟩
    refine ha.seq hr1 er1 br1 fun ws H2 ds μ2 h2 hr2 er2 p2 r2 br2 => ?_
    exact br2.pure hr2 ((p2.rps hr1 ra).append r2)
def mTup (ma : MA) : ME := fun env h => (ma env h).bind fun ds h1 => bif lenOk ds then .ok (.tup ds) h1 else .err
theorem bif_all {P : Program} {w : World} {K : PySem.W.Frag} {H : Hp} {μ : Nat → Addr} {h : MH} {α β : Type} {rp : Hp → (Nat → Addr) → Nat → α → β → Prop} {b : Bool} {r : R α} {Q : β → Hp → Prop} (x : BR P w K rp H μ h (bif b then r else .err) Q) : b = true ∧ BR P w K rp H μ h r Q := by
  cases b with
  | true => exact ⟨rfl, x⟩
  | false => exact False.elim x
theorem ie_tup {x1} (ha : ImplA X es ma) : ImplE X (.Tuple es x1 pos) (mTup ma) := by
  intro env h σ H μ Q hr er br
  intro pins s I
  refine wpAny_Tuple_spliced (thn (ha env h σ H μ _ hr er (BR.bind (rp := rpL X.K) hr br) pos pins s I) fun us s1 ⟨vs, H1, I1, rv, ds, μ1, h1, p1, ra, br1⟩ => ?_)
  obtain ⟨lk, br1⟩ := bif_all br1
  have lv : vs.length ≤ sizeLine := by rw [← RepAll.length ra]; exact lenOk_line lk
  exact ⟨by rw [← rv.length]; exact lv, tupEnd (K := X.K) (n := 0) (t' := s1.toks) I1 (fun b u e => Heap.get?_push_of_some _ e) (Nat.le_refl _) (Heap.get?_push_size _ rfl) rfl rfl rfl rv lv p1.rep ra br1⟩
def mLst (ma : MA) : ME := fun env h => (ma env h).bind fun ds h1 => bif lenOk ds then newM (.lst 0 ds) h1 else .err
theorem ie_lst (ha : ImplA X es ma) : ImplE X (.List es pos) (mLst ma) := by
  intro env h σ H μ Q hr er br
  refine mxE.of (pe_lst paX) ?_
  refine ha.seq hr er br fun vs H1 ds μ1 h1 hr1 er1 p1 r1 br1 => ?_
  obtain ⟨lk, br1⟩ := bif_all br1
  exact ⟨by rw [← RepAll.length r1]; exact lenOk_line lk, fun p np => newLst hr1 r1 np br1⟩

abbrev FA := List D → MH → R D
def CallD (X : Cx) (g : Value) (f : FA) : Prop := CallR X g fun vs H Q => ∃ ds h μ, HRep X.prog X.w X.K H μ h ∧ RepAll X.K H μ h.n ds vs ∧ BR X.prog X.w X.K (rpD X.K) H μ h (f ds h) Q
def mCall (f : FA) (ma : MA) : ME := fun env h => (ma env h).bind fun ds h1 => f ds h1
theorem ie_callB {id : String} {x : Str} {p : Pos} {f : FA} (hc : CallD X (.builtin id) f) (hg : Gl X x) (hm : X.mg x = none) (hv : bootBuiltins x = some (.builtin id)) (ha : ImplA X (e :: es) ma) (hn : x ≠ "__name__" := by decide) (hdb : (x == ("__debug__" : Str)) = false := by decide)
    (he : starEach (e :: es) X.env = (false, eval e X.env) :: starEach es X.env := by rfl) (hpl : (backTo pos (starEach es X.env)).any (·.1) = false := by rfl) : ImplE X (.Call (.Name x p) (e :: es) [] pos) (mCall f ma) := by
  intro env h σ H μ Q hr er br
  refine mxE.of (pe_callB hc hg hm hv paX hn hdb he hpl) ?_
  exact ha.seq hr er br fun vs H1 ds μ1 h1 hr1 er1 p1 r1 br1 => ⟨ds, h1, μ1, hr1, r1, br1⟩
theorem ie_callTy {T : String} {x : Str} {p : Pos} {f : FA} (hc : CallD X (.type T) f) (hg : Gl X x) (hm : X.mg x = none) (hv : bootBuiltins x = some (.type T)) (ha : ImplA X (e :: es) ma) (hn : x ≠ "__name__" := by decide) (hdb : (x == ("__debug__" : Str)) = false := by decide)
    (he : starEach (e :: es) X.env = (false, eval e X.env) :: starEach es X.env := by rfl) (hpl : (backTo pos (starEach es X.env)).any (·.1) = false := by rfl) : ImplE X (.Call (.Name x p) (e :: es) [] pos) (mCall f ma) := by
  intro env h σ H μ Q hr er br
  refine mxE.of (pe_callTy hc hg hm hv paX hn hdb he hpl) ?_
  exact ha.seq hr er br fun vs H1 ds μ1 h1 hr1 er1 p1 r1 br1 => ⟨ds, h1, μ1, hr1, r1, br1⟩
end

section
variable {X : Cx}
/-- two of the mirror's values and a rule -/
theorem op2 {g : Value → Value → Sem Value} {f : F2}
    (k : ∀ pins s σ H v u vv uu Q, Inv X pins σ H s → RelV v vv → RelV u uu → ∀ x y h μ, HRep X.prog X.w X.K H μ h → Rep X.K H μ h.n x v → Rep X.K H μ h.n y u → BR X.prog X.w X.K (rpD X.K) H μ h (f x y h) Q →
      wpAny (model X.prog X.w) X.A (g vv uu) (EP X pins σ Q) X.xe s) : Op2 X g f := by
  intro pins s σ H v u vv uu Q I rv ru ⟨x, y, h, μ, hr, rx, ry, br⟩
  exact k pins s σ H v u vv uu Q I rv ru x y h μ hr rx ry br
def addD : F2 := fun x y h => match x, y with
  | .int i, .int j => .ok (.int (i + j)) h
  | .tup xs, .tup ys => bif lenOk xs && lenOk ys then .ok (.tup (xs ++ ys)) h else .err
  | .ref a, .ref b => match ownD (.ref a) h, ownD (.ref b) h with
    | some (_, _, xs), some (_, _, ys) => bif lenOk xs && lenOk ys then newM (.lst 0 (xs ++ ys)) h else .err
    | _, _ => .err
  | _, _ => .err
theorem op_addD : Op2 X (binaryOp .Add) addD := by
  refine op2 fun pins s σ H v u vv uu Q I rv ru x y h μ hr rx ry br => ?_
  unfold addD at br
  split at br
  · cases rx; cases ry
    exact op_add pins s σ H _ _ _ _ Q I rv ru ⟨_, _, rfl, rfl, br.pure hr (.int _)⟩
  · rename_i xs ys
    obtain ⟨lk, br⟩ := bif_all br
    rw [Bool.and_eq_true] at lk
    cases rx with
    | @tup a vs _ sx rax =>
      cases ry with
      | @tup b ws _ sy ray =>
        cases rv; cases ru
        obtain ⟨its, r1, p1, z1⟩ := I.tuple sx.sq
        obtain ⟨its2, r2, p2, z2⟩ := I.tuple sy.sq
        have l1 := Nat.ble_eq.mp lk.1
        have l2 := Nat.ble_eq.mp lk.2
        have e1 := rax.length
        have e2 := ray.length
        have hz : its.length + its2.length ≤ sizeLine := by
          rw [← r1.length, ← r2.length, sizeLine_eq]; omega
        by_cases h0 : its = []
        · subst h0
          cases r1
          cases rax
          exact cat_tup0 p1 p2 ⟨.ref _, H, I, rfl, br.pure hr (.tup sy ray)⟩
        · refine HT.cat_tup p1 p2 h0 (fun z => ?_) (fun z => ?_) hz
          · subst z
            cases r2
            cases ray
            rw [List.append_nil] at br
            exact ⟨.ref _, H, I, rfl, br.pure hr (.tup sx rax)⟩
          · exact tupEnd (K := X.K) (n := 0) (t' := s.toks) I (fun b u e => Heap.get?_push_of_some _ e) (Nat.le_refl _) (Heap.get?_push_size _ rfl) rfl rfl rfl (r1.append r2) (by rw [List.length_append, sizeLine_eq]; omega) hr (rax.append ray) br
  · rename_i a b
    split at br
    · rename_i x1 x2 xs y1 y2 ys q1 q2
      obtain ⟨lk, br⟩ := bif_all br
      rw [Bool.and_eq_true] at lk
      obtain ⟨_, _, _, ev, vs, hv, rax⟩ := ownD_of hr rx q1
      obtain ⟨_, _, _, eu, ws, hw, ray⟩ := ownD_of hr ry q2
      subst ev eu
      have l1 := Nat.ble_eq.mp lk.1
      have l2 := Nat.ble_eq.mp lk.2
      have e1 := rax.length
      have e2 := ray.length
      exact op_cat pins s σ H _ _ _ _ Q I rv ru ⟨_, _, vs, ws, rfl, rfl, hv, hw, by rw [sizeLine_eq]; omega, fun p np => newLst hr (rax.append ray) np br⟩
    · exact False.elim br
  · exact False.elim br
def subD : F2 := fun x y h => match x, y with
  | .int i, .int j => .ok (.int (i - j)) h
  | _, _ => .err
theorem op_subD : Op2 X (binaryOp .Sub) subD := by
  refine op2 fun pins s σ H v u vv uu Q I rv ru x y h μ hr rx ry br => ?_
  unfold subD at br
  split at br
  · cases rx; cases ry
    exact op_sub pins s σ H _ _ _ _ Q I rv ru ⟨_, _, rfl, rfl, br.pure hr (.int _)⟩
  · exact False.elim br
def mulD : F2 := fun x y h => match x, y with
  | .int i, .int j => bif Nat.blt j.natAbs 1152921504606846976 || Nat.blt (i.natAbs.log2 + j.natAbs.log2) 100000000 then .ok (.int (i * j)) h else .err
  | .ref a, .int j => match ownD (.ref a) h with
    | some (_, _, xs) => bif lenOk xs && decide (0 ≤ j) && Nat.ble j.toNat 100 then newM (.lst 0 (List.replicate j.toNat xs).flatten) h else .err
    | _ => .err
  | _, _ => .err
theorem rep_flat {K : PySem.W.Frag} {H : Hp} {μ : Nat → Addr} {n : Nat} {ds : List D} {vs : List V} (r : RepAll K H μ n ds vs) : ∀ k : Nat, RepAll K H μ n (List.replicate k ds).flatten (List.replicate k vs).flatten
  | 0 => .nil
  | k + 1 => by
    rw [List.replicate_succ, List.replicate_succ, List.flatten_cons, List.flatten_cons]
    exact r.append (rep_flat r k)
theorem mulOk {i j : Int} (h : (Nat.blt j.natAbs 1152921504606846976 || Nat.blt (i.natAbs.log2 + j.natAbs.log2) 100000000) = true) : IntMulOk i j := by
  have few : ∀ n : Int, Builtin.Int.intBits n ≤ n.natAbs.log2 + 1 := fun n => by
    unfold Builtin.Int.intBits
    split <;> omega
  have fi := few i
  have fj := few j
  have eb : bitsLine = 134217728 := by decide
  unfold IntMulOk
  intro zz
  rw [Bool.and_eq_true, Bool.and_eq_true] at zz
  rw [Bool.or_eq_true] at h
  rcases h with h | h
  · have hj := Nat.blt_eq.mp h
    have lj : j.natAbs.log2 < 60 := by
      by_cases z : j.natAbs = 0
      · rw [z]; decide
      · exact (Nat.log2_lt z).mpr hj
    have z1 := of_decide_eq_true zz.1.2
    have eq : shortFactorBits = 64 := rfl
    omega
  · have h := Nat.blt_eq.mp h
    have zz2 := zz.2
    unfold Builtin.Int.intTooBig at zz2
    have zz3 := of_decide_eq_true zz2
    rw [eb] at zz3
    omega
theorem op_mulX : OpR X (binaryOp .Mult) (rI (fun i j => (Nat.blt j.natAbs 1152921504606846976 || Nat.blt (i.natAbs.log2 + j.natAbs.log2) 100000000) = true) fun i j => .int (i * j)) := opI fun _ _ _ _ _ _ _ hc q => mul_int q (mulOk hc)
theorem op_mulD : Op2 X (binaryOp .Mult) mulD := by
  refine op2 fun pins s σ H v u vv uu Q I rv ru x y h μ hr rx ry br => ?_
  unfold mulD at br
  split at br
  · obtain ⟨lk, br⟩ := bif_all br
    cases rx; cases ry
    exact op_mulX pins s σ H _ _ _ _ Q I rv ru ⟨_, _, rfl, rfl, lk, br.pure hr (.int _)⟩
  · split at br
    · rename_i x1 x2 xs q1
      obtain ⟨lk, br⟩ := bif_all br
      rw [Bool.and_eq_true, Bool.and_eq_true] at lk
      obtain ⟨_, _, _, ev, vs, hv, rax⟩ := ownD_of hr rx q1
      subst ev
      cases ry
      have l1 := Nat.ble_eq.mp lk.1.1
      have l2 := Nat.ble_eq.mp lk.2
      have l3 := of_decide_eq_true lk.1.2
      have e1 := rax.length
      have hz : vs.length * Int.toNat (by assumption) ≤ sizeLine := by
        rw [sizeLine_eq]
        refine Nat.le_trans (Nat.mul_le_mul (Nat.le_trans (Nat.le_of_eq e1.symm) l1) l2) (by decide)
      exact op_rep pins s σ H _ _ _ _ Q I rv ru ⟨_, _, vs, rfl, rfl, hv, by omega, by omega, hz, fun p np => newLst hr (rep_flat rax _) np br⟩
    · exact False.elim br
  · exact False.elim br
def divD : F2 := fun x y h => match x, y with
  | .int i, .int j => bif decide (0 < j) && Nat.blt j.natAbs.log2 9000 then .ok (.int (i / j)) h else .err
  | _, _ => .err
theorem op_divD : Op2 X (binaryOp .FloorDiv) divD := by
  refine op2 fun pins s σ H v u vv uu Q I rv ru x y h μ hr rx ry br => ?_
  unfold divD at br
  split at br
  · obtain ⟨lk, br⟩ := bif_all br
    rw [Bool.and_eq_true] at lk
    cases rx; cases ry
    exact op_fdivW pins s σ H _ _ _ _ Q I rv ru ⟨_, _, rfl, rfl, ⟨of_decide_eq_true lk.1, Nat.blt_eq.mp lk.2⟩, br.pure hr (.int _)⟩
  · exact False.elim br
def modD : F2 := fun x y h => match x, y with
  | .int i, .int j => bif decide (0 < j) then .ok (.int (i % j)) h else .err
  | _, _ => .err
theorem op_modD : Op2 X (binaryOp .Mod) modD := by
  refine op2 fun pins s σ H v u vv uu Q I rv ru x y h μ hr rx ry br => ?_
  unfold modD at br
  split at br
  · obtain ⟨lk, br⟩ := bif_all br
    cases rx; cases ry
    exact op_mod pins s σ H _ _ _ _ Q I rv ru ⟨_, _, rfl, rfl, of_decide_eq_true lk, br.pure hr (.int _)⟩
  · exact False.elim br
def powD : F2 := fun x y h => match x, y with
  | .int i, .int j => bif decide (0 ≤ j) && decide (j ≤ 1000) && Nat.blt i.natAbs (2 ^ 64) then .ok (.int (i ^ j.toNat)) h else .err
  | _, _ => .err
theorem op_powD : Op2 X (binaryOp .Pow) powD := by
  refine op2 fun pins s σ H v u vv uu Q I rv ru x y h μ hr rx ry br => ?_
  unfold powD at br
  split at br
  · obtain ⟨lk, br⟩ := bif_all br
    rw [Bool.and_eq_true, Bool.and_eq_true] at lk
    cases rx; cases ry
    have a := of_decide_eq_true lk.1.1
    have b := of_decide_eq_true lk.1.2
    exact op_pow pins s σ H _ _ _ _ Q I rv ru ⟨_, _, rfl, rfl, ⟨a, by omega, Nat.blt_eq.mp lk.2⟩, br.pure hr (.int _)⟩
  · exact False.elim br

def mapO {α β : Type} (f : α → Option β) : List α → Option (List β)
  | [] => some []
  | x :: xs => match f x with
    | some y => match mapO f xs with
      | some ys => some (y :: ys)
      | none => none
    | none => none
def datH (h : MH) : Nat → D → Option PyData
  | _, .non => some .none
  | _, .bl b => some (.bool b)
  | _, .int i => some (.int i)
  | _, .str x => some (.str x)
  | n + 1, .tup ds => match mapO (datH h n) ds with
    | some xs => some (.tuple xs)
    | none => none
  | n + 1, .ref i => match lstD (.ref i) h with
    | some ds => match mapO (datH h n) ds with
      | some xs => some (.list xs)
      | none => none
    | none => none
  | 0, _ => none
section
variable {P : Program} {w : World} {K : PySem.W.Frag} {H : Hp} {μ : Nat → Addr} {h : MH}
theorem mapO_dp {f : D → Option PyData} (hf : ∀ d v x, Rep K H μ h.n d v → f d = some x → Dp K H v x) : ∀ {ds : List D} {vs : List V} {xs : List PyData}, RepAll K H μ h.n ds vs → mapO f ds = some xs → DpAll K H vs xs
  | [], _, _, r, e => by cases r; cases e; exact .nil
  | d :: ds, _, _, r, e => by
    cases r with
    | cons r1 r2 =>
      rw [mapO] at e
      cases q : f d with
      | none => rw [q] at e; cases e
      | some y =>
        rw [q] at e
        cases q2 : mapO f ds with
        | none => rw [q2] at e; cases e
        | some ys =>
          rw [q2] at e
          cases e
          exact .cons (hf d _ y r1 q) (mapO_dp hf r2 q2)
theorem datH_dp (hr : HRep P w K H μ h) : ∀ (n : Nat) (d : D) (v : V) (x : PyData), Rep K H μ h.n d v → datH h n d = some x → Dp K H v x := by
  intro n
  induction n with
  | zero =>
    intro d v x r e
    cases d with
    | non => cases r; cases e; exact .non
    | bl b => cases r; cases e; exact .bl b
    | int i => cases r; cases e; exact .int i
    | str y => cases r; cases e; exact .str y
    | _ => cases e
  | succ n ih =>
    intro d v x r e
    cases d with
    | non => cases r; cases e; exact .non
    | bl b => cases r; cases e; exact .bl b
    | int i => cases r; cases e; exact .int i
    | str y => cases r; cases e; exact .str y
    | tup ds =>
      rw [datH] at e
      cases q : mapO (datH h n) ds with
      | none => rw [q] at e; cases e
      | some xs =>
        rw [q] at e
        cases e
        cases r with
        | tup st ra => exact .tup st.sq (mapO_dp ih ra q)
    | ref i =>
      rw [datH] at e
      cases q0 : lstD (.ref i) h with
      | none => rw [q0] at e; cases e
      | some ds =>
        rw [q0] at e
        simp only at e
        cases q : mapO (datH h n) ds with
        | none => rw [q] at e; cases e
        | some xs =>
          rw [q] at e
          cases e
          obtain ⟨a, vs, rfl, sq, ra⟩ := lstD_of hr r q0
          exact .lst sq (mapO_dp ih ra q)
end
def shp (d : PyData) : Bool := SeqAt.shaped d
/-- both as data -/
def both (x y : D) (h : MH) (f : PyData → PyData → R D) : R D := match datH h 20 x with
  | some a => match datH h 20 y with
    | some b => bif shp a && shp b then f a b else .err
    | none => .err
  | none => .err
theorem both_of {H : Hp} {μ : Nat → Addr} {h : MH} {x y : D} {v u : V} (hr : HRep X.prog X.w X.K H μ h) (rx : Rep X.K H μ h.n x v) (ry : Rep X.K H μ h.n y u) {f : PyData → PyData → R D} {Q : VK} (br : BR X.prog X.w X.K (rpD X.K) H μ h (both x y h f) Q) :
    ∃ a b, Dp X.K H v a ∧ Dp X.K H u b ∧ SeqAt.shaped a = true ∧ SeqAt.shaped b = true ∧ BR X.prog X.w X.K (rpD X.K) H μ h (f a b) Q := by
  unfold both at br
  split at br
  · rename_i a qa
    split at br
    · rename_i b qb
      obtain ⟨lk, br⟩ := bif_all br
      rw [Bool.and_eq_true] at lk
      exact ⟨a, b, datH_dp hr 20 x v a rx qa, datH_dp hr 20 y u b ry qb, lk.1, lk.2, br⟩
    · exact False.elim br
  · exact False.elim br
def eqD : F2 := fun x y h => match x, y with
  | .int i, .int j => .ok (.bl (decide (i = j))) h
  | .bl i, .bl j => .ok (.bl (decide (i = j))) h
  | x, y => both x y h fun a b => .ok (.bl (PyData.eqv a b)) h
def neD : F2 := fun x y h => match x, y with
  | .int i, .int j => .ok (.bl (!decide (i = j))) h
  | .bl i, .bl j => .ok (.bl (!decide (i = j))) h
  | x, y => both x y h fun a b => .ok (.bl (!PyData.eqv a b)) h
theorem dec_cast {α : Type} [DecidableEq α] {β : Type} [DecidableEq β] {f : α → β} (hf : ∀ a b, f a = f b → a = b) (a b : α) : decide (f a = f b) = decide (a = b) := by
  rw [Bool.eq_iff_iff, decide_eq_true_eq, decide_eq_true_eq]
  exact ⟨hf a b, fun e => by rw [e]⟩
theorem op_eqDD (hu : X.A.units + 64 < cLine) : Op2 X (compareOp .Eq) eqD := by
  refine op2 fun pins s σ H v u vv uu Q I rv ru x y h μ hr rx ry br => ?_
  unfold eqD at br
  split at br
  · cases rx; cases ry
    refine op_eq pins s σ H _ _ _ _ Q I rv ru ⟨rfl, ?_⟩
    rw [dec_cast fun a b e => by injection e]
    exact br.pure hr (.bl _)
  · cases rx; cases ry
    refine op_eq pins s σ H _ _ _ _ Q I rv ru ⟨rfl, ?_⟩
    rw [dec_cast fun a b e => by injection e]
    exact br.pure hr (.bl _)
  · obtain ⟨a, b, da, db, sa, sb, br⟩ := both_of hr rx ry br
    exact op_eqD hu pins s σ H _ _ _ _ Q I rv ru ⟨a, b, da, db, sa, sb, br.pure hr (.bl _)⟩
theorem op_neDD (hu : X.A.units + 64 < cLine) : Op2 X (compareOp .NotEq) neD := by
  refine op2 fun pins s σ H v u vv uu Q I rv ru x y h μ hr rx ry br => ?_
  unfold neD at br
  split at br
  · cases rx; cases ry
    refine op_ne pins s σ H _ _ _ _ Q I rv ru ⟨rfl, ?_⟩
    rw [dec_cast fun a b e => by injection e]
    exact br.pure hr (.bl _)
  · cases rx; cases ry
    refine op_ne pins s σ H _ _ _ _ Q I rv ru ⟨rfl, ?_⟩
    rw [dec_cast fun a b e => by injection e]
    exact br.pure hr (.bl _)
  · obtain ⟨a, b, da, db, sa, sb, br⟩ := both_of hr rx ry br
    exact op_neD hu pins s σ H _ _ _ _ Q I rv ru ⟨a, b, da, db, sa, sb, br.pure hr (.bl _)⟩
/-- x in xs -/
def inD (neg : Bool) : F2 := fun x y h => match lstD y h with
  | some _ => both x y h fun a b => match b with
    | .list ds => .ok (.bl (bif neg then !ds.any fun z => PyData.eqv z a else ds.any fun z => PyData.eqv z a)) h
    | _ => .err
  | none => .err
theorem op_inDD (hu : X.A.units + 65 < cLine) : Op2 X (compareOp .In) (inD false) := by
  refine op2 fun pins s σ H v u vv uu Q I rv ru x y h μ hr rx ry br => ?_
  unfold inD at br
  split at br
  · obtain ⟨a, b, da, db, sa, sb, br⟩ := both_of hr rx ry br
    split at br
    · exact op_inD hu pins s σ H _ _ _ _ Q I rv ru ⟨a, _, da, db, sa, sb, br.pure hr (.bl _)⟩
    · exact False.elim br
  · exact False.elim br
theorem op_notInDD (hu : X.A.units + 65 < cLine) : Op2 X (compareOp .NotIn) (inD true) := by
  refine op2 fun pins s σ H v u vv uu Q I rv ru x y h μ hr rx ry br => ?_
  unfold inD at br
  split at br
  · obtain ⟨a, b, da, db, sa, sb, br⟩ := both_of hr rx ry br
    split at br
    · exact op_notInD hu pins s σ H _ _ _ _ Q I rv ru ⟨a, _, da, db, sa, sb, br.pure hr (.bl _)⟩
    · exact False.elim br
  · exact False.elim br
/-- x is None, x is not None -/
def isN (neg : Bool) : F2 := fun x y h => match y with
  | .non => match x with
    | .non => .ok (.bl (!neg)) h
    | _ => .ok (.bl neg) h
  | _ => .err
theorem isN_val {K : PySem.W.Frag} {H : Hp} {μ : Nat → Addr} {n : Nat} {x : D} {v : V} (r : Rep K H μ n x v) : decide (v = .non) = match x with | .non => true | _ => false := by
  cases r <;> simp
theorem op_isD : Op2 X (compareOp .Is) (isN false) := by
  refine op2 fun pins s σ H v u vv uu Q I rv ru x y h μ hr rx ry br => ?_
  unfold isN at br
  split at br
  · cases ry
    refine op_isN pins s σ H _ _ _ _ Q I rv ru ⟨rfl, ?_⟩
    rw [isN_val rx]
    cases x <;> exact br.pure hr (.bl _)
  · exact False.elim br
theorem op_isNotD : Op2 X (compareOp .IsNot) (isN true) := by
  refine op2 fun pins s σ H v u vv uu Q I rv ru x y h μ hr rx ry br => ?_
  unfold isN at br
  split at br
  · cases ry
    refine op_notN pins s σ H _ _ _ _ Q I rv ru ⟨rfl, ?_⟩
    rw [isN_val rx]
    cases x <;> exact br.pure hr (.bl _)
  · exact False.elim br
end
end Mi
set_option Elab.async false
set_option linter.all false
set_option autoImplicit false
set_option maxHeartbeats 1600000
namespace Mi
open PySem PySem.Spec PyProof.Rows L2 Mset
open PySem.W (EachIs)

/-- the forms that are told apart -/
def allS : List Sc := [.tree, .int, .col, .seq .int, .pair (.pair (.seq .tree) .tree) .int]
theorem alike_nn {x y : PyData} (h : PySem.W.alike x y = true) (p : ∃ d : D, d.dat = x ∧ Pur d) : x ≠ .none := by
  obtain ⟨d, rfl, hp⟩ := p
  cases hp <;> intro e <;> simp [D.dat] at e
section
variable {X : Cx}
def cmpD (f : Ordering → Bool) : F2 := fun x y h => match x, y with
  | .int i, .int j => .ok (.bl (f (icmp i j))) h
  | x, y => bif okS allS [x, y] && (x.low 40 && y.low 40) then .ok (.bl (f (D.cmp x y))) h else .err
/-- what a comparison by order asks -/
theorem cmpR {op : CmpOp} {f : Ordering → Bool} (hi : ∀ pins s σ H (i j : Int) vv uu Q, Inv X pins σ H s → RelV (.int i) vv → RelV (.int j) uu → Q (.bl (f (icmp i j))) H → wpAny (model X.prog X.w) X.A (compareOp op vv uu) (EP X pins σ Q) X.xe s)
    (hd : ∀ (s : Shared) (a b : Value) (da db : PyData) (as bs : List Addr) (x y : D) (P : D → Prop) (Q : Value → Shared → Prop), Fine P → P x → P y → x.dat = da → y.dat = db → Reads s.heap a da as → Reads s.heap b db bs → PySem.W.alike da db = true → da ≠ .none → X.A.units + min da.depth db.depth < cLine →
      Q (.bool (f (D.cmp x y))) s → wpAny (model X.prog X.w) X.A (compareOp op a b) Q X.xe s) (hu : X.A.units + 64 < cLine) : Op2 X (compareOp op) (cmpD f) := by
  refine op2 fun pins s σ H v u vv uu Q I rv ru x y h μ hr rx ry br => ?_
  unfold cmpD at br
  split at br
  · cases rx; cases ry
    exact hi pins s σ H _ _ vv uu Q I rv ru (br.pure hr (.bl _))
  · obtain ⟨lk, br⟩ := bif_all br
    rw [Bool.and_eq_true, Bool.and_eq_true] at lk
    obtain ⟨P, F, hP⟩ := okS_fine lk.1
    have px := hP x List.mem_cons_self
    have py := hP y (List.mem_cons_of_mem _ List.mem_cons_self)
    obtain ⟨as, r1⟩ := Dp.reads I _ _ _ (rep_dp _ _ rx (pur_flat (F.pur _ px))) rv
    obtain ⟨bs, r2⟩ := Dp.reads I _ _ _ (rep_dp _ _ ry (pur_flat (F.pur _ py))) ru
    have al := F.al x y px py
    have l1 := low_dat 40 x lk.2.1
    refine hd s vv uu _ _ as bs x y P _ F px py rfl rfl r1 r2 al (alike_nn al ⟨x, rfl, F.pur _ px⟩) (by have := Nat.min_le_left x.dat.depth y.dat.depth; omega) ⟨.bl _, H, I, rfl, br.pure hr (.bl _)⟩
def oLt : Ordering → Bool | .lt => true | _ => false
def oGt : Ordering → Bool | .gt => true | _ => false
def oLe : Ordering → Bool | .gt => false | _ => true
def oGe : Ordering → Bool | .lt => false | _ => true
theorem oLt_i (i j : Int) : oLt (icmp i j) = decide (i < j) := by
  unfold icmp; by_cases h : i < j
  · simp [h, oLt]
  · by_cases h2 : i = j <;> simp [h, h2, oLt]
theorem oGt_i (i j : Int) : oGt (icmp i j) = decide (j < i) := by
  unfold icmp; by_cases h : i < j
  · simp [h, oGt]; omega
  · by_cases h2 : i = j <;> simp [h, h2, oGt]; omega
theorem oLe_i (i j : Int) : oLe (icmp i j) = decide (i ≤ j) := by
  unfold icmp; by_cases h : i < j
  · simp [h, oLe]; omega
  · by_cases h2 : i = j <;> simp [h, h2, oLe]; omega
theorem oGe_i (i j : Int) : oGe (icmp i j) = decide (j ≤ i) := by
  unfold icmp; by_cases h : i < j
  · simp [h, oGe]
  · by_cases h2 : i = j <;> simp [h, h2, oGe]; omega
theorem cmp_dl {P : D → Prop} (F : Fine P) {x y : D} (px : P x) (py : P y) : oLt (D.cmp x y) = PySem.W.dataLt x.dat y.dat := by
  have q := F.lt px py
  cases e : D.cmp x y with
  | lt => rw [q.mpr e]; rfl
  | _ => cases e2 : PySem.W.dataLt x.dat y.dat with
    | false => rfl
    | true => rw [q.mp e2] at e; cases e
theorem cmp_dg {P : D → Prop} (F : Fine P) {x y : D} (px : P x) (py : P y) : oGt (D.cmp x y) = PySem.W.dataLt y.dat x.dat := by
  have q := F.gt px py
  cases e : D.cmp x y with
  | gt => rw [q.mp e]; rfl
  | _ => cases e2 : PySem.W.dataLt y.dat x.dat with
    | false => rfl
    | true => rw [q.mpr e2] at e; cases e
theorem oLe_not (o : Ordering) : oLe o = !oGt o := by cases o <;> rfl
theorem oGe_not (o : Ordering) : oGe o = !oLt o := by cases o <;> rfl
theorem op_ltD (hu : X.A.units + 64 < cLine) : Op2 X (compareOp .Lt) (cmpD oLt) :=
  cmpR (fun pins s σ H i j vv uu Q I r1 r2 q => op_lt pins s σ H _ _ vv uu Q I r1 r2 ⟨i, j, rfl, rfl, by rw [oLt_i] at q; exact q⟩)
    (fun s a b da db as bs x y P Q F px py ex ey r1 r2 al nn hu q => PySem.W.lt_data r1 r2 al nn hu (by subst ex ey; rw [← cmp_dl F px py]; exact q)) hu
theorem op_gtD (hu : X.A.units + 64 < cLine) : Op2 X (compareOp .Gt) (cmpD oGt) :=
  cmpR (fun pins s σ H i j vv uu Q I r1 r2 q => op_gt pins s σ H _ _ vv uu Q I r1 r2 ⟨i, j, rfl, rfl, by rw [oGt_i] at q; exact q⟩)
    (fun s a b da db as bs x y P Q F px py ex ey r1 r2 al nn hu q => PySem.W.gt_data r1 r2 al nn hu (by subst ex ey; rw [← cmp_dg F px py]; exact q)) hu
theorem op_leD (hu : X.A.units + 64 < cLine) : Op2 X (compareOp .LtE) (cmpD oLe) :=
  cmpR (fun pins s σ H i j vv uu Q I r1 r2 q => op_le pins s σ H _ _ vv uu Q I r1 r2 ⟨i, j, rfl, rfl, by rw [oLe_i] at q; exact q⟩)
    (fun s a b da db as bs x y P Q F px py ex ey r1 r2 al nn hu q => PySem.W.le_data r1 r2 al nn hu (by subst ex ey; rw [← cmp_dg F px py, ← oLe_not]; exact q)) hu
theorem op_geD (hu : X.A.units + 64 < cLine) : Op2 X (compareOp .GtE) (cmpD oGe) :=
  cmpR (fun pins s σ H i j vv uu Q I r1 r2 q => op_ge pins s σ H _ _ vv uu Q I r1 r2 ⟨i, j, rfl, rfl, by rw [oGe_i] at q; exact q⟩)
    (fun s a b da db as bs x y P Q F px py ex ey r1 r2 al nn hu q => PySem.W.ge_data r1 r2 al nn hu (by subst ex ey; rw [← cmp_dl F px py, ← oGe_not]; exact q)) hu

section
variable {a b c : Expr} {ma mb mc : ME} {pos : Pos}
theorem ie_cmp {op : CmpOp} {f : F2} (ho : Op2 X (compareOp op) f) (ha : ImplE X a ma) (hb : ImplE X b mb) (hm : behindInMarks op b = false := by rfl) : ImplE X (.Compare a [op] [b] pos) (mBin f ma mb) := by
  intro env h σ H μ Q hr er br
  exact mxE.of (pe_cmpR ho peX peX hm) (two (Q' := fun v u H2 => ∃ x y h μ, HRep X.prog X.w X.K H2 μ h ∧ Rep X.K H2 μ h.n x v ∧ Rep X.K H2 μ h.n y u ∧ BR X.prog X.w X.K (rpD X.K) H2 μ h (f x y h) Q) ha hb hr er br
    fun v u H2 x y μ2 h2 hr2 _ _ rx ry br2 => ⟨x, y, h2, μ2, hr2, rx, ry, br2⟩)
def mChain (f g : F2) (ma mb mc : ME) : ME := fun env h => (ma env h).bind fun x h1 => (mb env h1).bind fun y h2 => (f x y h2).bind fun z h3 => match z with
  | .bl true => (mc env h3).bind fun w h4 => g y w h4
  | .bl false => .ok (.bl false) h3
  | _ => .err
theorem ie_chain {op op' : CmpOp} {f g : F2} (ho : Op2 X (compareOp op) f) (ho' : Op2 X (compareOp op') g) (ha : ImplE X a ma) (hb : ImplE X b mb) (hc : ImplE X c mc)
    (hm : lastMarks [op, op'] [b, c] = false := by with_unfolding_all rfl) : ImplE X (.Compare a [op, op'] [b, c] pos) (mChain f g ma mb mc) := by
  intro env h σ H μ Q hr er br
  refine mxE.of (pe_chain ho ho' peX peX peX hm) ?_
  refine two (Q' := _) ha hb hr er br fun v u H2 x y μ2 h2 hr2 er2 _ rx ry br2 => ?_
  refine ⟨x, y, h2, μ2, hr2, rx, ry, (BR.bind (rp := rpD X.K) hr2 br2).mono fun z H3 ⟨dz, μ3, h3, p3, rz, br3⟩ => ?_⟩
  cases dz with
  | bl k =>
    cases rz
    refine ⟨k, rfl, ?_⟩
    cases k with
    | true =>
      rw [if_pos rfl]
      refine hc.seq p3.rep (p3.er hr2 er2) br3 fun w H4 dw μ4 h4 hr4 er4 p4 rw4 br4 => ?_
      exact ⟨y, dw, h4, μ4, hr4, p4.rp p3.rep (p3.rp hr2 ry), rw4, br4⟩
    | false =>
      rw [if_neg (by decide)]
      exact br3.pure p3.rep (.bl _)
  | _ => exact False.elim br3
end

theorem atI_rep {K : PySem.W.Frag} {H : Hp} {μ : Nat → Addr} {n : Nat} {ds : List D} {vs : List V} (r : RepAll K H μ n ds vs) {i : Int} {d : D} (e : atI ds i = some d) : ∃ v, atI vs i = some v ∧ Rep K H μ n d v := by
  unfold atI at e ⊢
  rw [← r.length]
  cases q : ixN ds.length i with
  | none => rw [q] at e; cases e
  | some j =>
    rw [q] at e
    exact r.get e
def ixD : F2 := fun x y h => match y with
  | .int i => match seqD x h with
    | some ds => match atI ds i with
      | some d => .ok d h
      | none => .err
    | none => .err
  | _ => .err
section
variable {a b : Expr} {ma mb : ME} {pos : Pos}
theorem ie_ix (ha : ImplE X a ma) (hb : ImplE X b mb) (hs : PlainIx b := by intro _ _; rfl) : ImplE X (.Subscript a b pos) (mBin ixD ma mb) := by
  intro env h σ H μ Q hr er br
  refine mxE.of (pe_ix (ix_list.or ix_tup) peX peX hs) ?_
  refine two (Q' := fun v u H2 => rIxL X.K v u H2 Q ∨ rIxT X.K v u H2 Q) ha hb hr er br fun v u H2 x y μ2 h2 hr2 er2 _ rx ry br2 => ?_
  unfold ixD at br2
  split at br2
  · split at br2
    · rename_i ds q
      split at br2
      · rename_i d q2
        cases ry
        obtain ⟨a, vs, rfl, sq, ra⟩ := seqD_of hr2 rx q
        obtain ⟨w, e, rw⟩ := atI_rep ra q2
        rcases sq with sq | sq
        · exact .inl ⟨a, vs, _, w, rfl, rfl, sq, e, br2.pure hr2 rw⟩
        · exact .inr ⟨a, vs, _, w, rfl, rfl, sq, e, br2.pure hr2 rw⟩
      · exact False.elim br2
    · exact False.elim br2
  · exact False.elim br2
end

abbrev MO_ := Ev → MH → R (Option Int)
abbrev rpO : Hp → (Nat → Addr) → Nat → Option Int → Option Int → Prop := fun _ _ _ a b => a = b
def mxO (X : Cx) (e : Option Expr) : TO := fun σ H Q => ∀ (pins : List (Addr × Obj)) (s : Shared), Inv X pins σ H s → wpAny (model X.prog X.w) X.A (evalPart e X.env) (fun u s' => ∃ o H', Inv X pins σ H' s' ∧ IsPart u o ∧ Q o H') X.xe s
theorem poX {e : Option Expr} : PO X e (mxO X e) := ⟨fun pins s _ _ _ I h => h pins s I⟩
theorem mxO.of {e : Option Expr} {t : TO} (h : PO X e t) {σ : L2.St} {H : Hp} {Q : Option Int → Hp → Prop} (x : t σ H Q) : mxO X e σ H Q := fun pins s I => h.run pins s σ H Q I x
theorem mxO.mono {e : Option Expr} {σ : L2.St} {H : Hp} {Q Q' : Option Int → Hp → Prop} (x : mxO X e σ H Q) (m : ∀ v H', Q v H' → Q' v H') : mxO X e σ H Q' := fun pins s I =>
  wpAny_mono (x pins s I) (fun _ _ ⟨v, H', a, b, q⟩ => ⟨v, H', a, b, m _ _ q⟩) fun _ _ z => z
def ImplO (X : Cx) (e : Option Expr) (m : MO_) : Prop := ∀ env h σ H μ Q, HRep X.prog X.w X.K H μ h → ERep X.K H μ h.n env σ → BR X.prog X.w X.K rpO H μ h (m env h) Q → mxO X e σ H Q
def mNoPart : MO_ := fun _ h => .ok none h
def mPart (m : ME) : MO_ := fun env h => (m env h).bind fun d h1 => match d with
  | .int i => .ok (some i) h1
  | _ => .err
theorem io_none : ImplO X none mNoPart := by
  intro env h σ H μ Q hr er br
  exact mxO.of po_none (br.pure hr rfl)
theorem io_some {e : Expr} {m : ME} (he : ImplE X e m) : ImplO X (some e) (mPart m) := by
  intro env h σ H μ Q hr er br
  refine mxO.of (po_some peX) ?_
  refine he.seq hr er br fun v H1 d μ1 h1 hr1 er1 p1 r1 br1 => ?_
  split at br1
  · cases r1
    exact ⟨_, rfl, br1.pure hr1 rfl⟩
  · exact False.elim br1
theorem ImplO.seq {e : Option Expr} {m : MO_} (he : ImplO X e m) {env : Ev} {h : MH} {σ : L2.St} {H : Hp} {μ : Nat → Addr} (hr : HRep X.prog X.w X.K H μ h) (er : ERep X.K H μ h.n env σ)
    {α β : Type} {rp : Hp → (Nat → Addr) → Nat → α → β → Prop} {f : Option Int → MH → R α} {Q : β → Hp → Prop} (br : BR X.prog X.w X.K rp H μ h ((m env h).bind f) Q) {Q' : Option Int → Hp → Prop}
    (k : ∀ o H1 μ1 h1, HRep X.prog X.w X.K H1 μ1 h1 → ERep X.K H1 μ1 h1.n env σ → Post X.prog X.w X.K H μ h H1 μ1 h1 → BR X.prog X.w X.K rp H1 μ1 h1 (f o h1) Q → Q' o H1) : mxO X e σ H Q' :=
  (he env h σ H μ _ hr er (BR.bind (rp := rpO) hr br)).mono fun v H1 ⟨d, μ1, h1, p, r, q⟩ => by
    have r : d = v := r
    subst r
    exact k d H1 μ1 h1 p.rep (p.er hr er) p q
def cutA {α : Type} (xs : List α) (lo hi : Option Int) : List α := (xs.drop (HT.sIx xs.length 0 lo)).take (HT.sIx xs.length xs.length hi - HT.sIx xs.length 0 lo)
theorem cutA_rep {K : PySem.W.Frag} {H : Hp} {μ : Nat → Addr} {n : Nat} {ds : List D} {vs : List V} (r : RepAll K H μ n ds vs) (lo hi : Option Int) : RepAll K H μ n (cutA ds lo hi) (cutV vs lo hi) := by
  unfold cutA cutV
  rw [← r.length]
  exact (r.drop _).take _
def slD (x : D) (lo hi : Option Int) (h : MH) : R D := match x with
  | .tup ds => .ok (.tup (cutA ds lo hi)) h
  | .ref i => match lstD (.ref i) h with
    | some ds => newM (.lst 0 (cutA ds lo hi)) h
    | none => .err
  | _ => .err
def rSlD (X : Cx) : V → Option Int → Option Int → Hp → VK → Prop := fun v lo hi H Q => ∃ x h μ, HRep X.prog X.w X.K H μ h ∧ Rep X.K H μ h.n x v ∧ BR X.prog X.w X.K (rpD X.K) H μ h (slD x lo hi h) Q
theorem sl_D : SlR X (rSlD X) := by
  intro pins s σ H x v vl vu lo hi sl Q I rx hs pl pu ⟨d, h, μ, hr, rd, br⟩
  unfold slD at br
  split at br
  · rename_i ds
    cases rd with
    | @tup a vs _ st ra =>
      cases rx
      obtain ⟨its, r, ht, hz⟩ := I.tuple st.sq
      have hlen : its.toArray.size = vs.length := by rw [List.size_toArray]; exact r.length.symm
      refine ⟨"tuple", _, PyProof.Rows.slot_tuple_getitem.lookup, ht.typeIs, ?_⟩
      by_cases hw : HT.sIx vs.length 0 lo = 0 ∧ HT.sIx vs.length vs.length hi = vs.length
      · have e : cutA ds lo hi = ds := by
          unfold cutA
          rw [ra.length, hw.1, hw.2, List.drop_zero, Nat.sub_zero, ← ra.length, List.take_length]
        rw [e] at br
        exact getItem_tuple_whole ht hs pl pu (by rw [hlen]; exact hw) ⟨.ref a, H, I, rfl, br.pure hr (.tup st ra)⟩
      · refine HT.getItem_tuple_cut ht hs pl pu (by rw [hlen]; exact hw) ?_ (by rw [hlen]; exact hz)
        rw [hlen]
        exact tupEnd (K := X.K) (n := 0) (t' := s.toks) (vs := cutV vs lo hi) I (fun b u e => Heap.get?_push_of_some _ e) (Nat.le_refl _) (Heap.get?_push_size _ rfl) rfl rfl rfl
          ((r.drop (HT.sIx vs.length 0 lo)).take (HT.sIx vs.length vs.length hi - HT.sIx vs.length 0 lo)) (Nat.le_trans (cutV_length vs lo hi) hz) hr (cutA_rep ra lo hi) br
  · split at br
    · rename_i ds q
      obtain ⟨a, vs, rfl, sq, ra⟩ := lstD_of hr rd q
      exact sl_list pins s σ H _ v vl vu lo hi sl Q I rx hs pl pu ⟨a, vs, rfl, sq, fun p np => newLst hr (cutA_rep ra lo hi) np br⟩
    · exact False.elim br
  · exact False.elim br
def mSlice (m : ME) (ml mu : MO_) : ME := fun env h => (m env h).bind fun x h1 => (ml env h1).bind fun lo h2 => (mu env h2).bind fun hi h3 => slD x lo hi h3
theorem ie_slice {e : Expr} {lo hi : Option Expr} {m : ME} {ml mu : MO_} {p2 pos : Pos} (he : ImplE X e m) (hl : ImplO X lo ml) (hu : ImplO X hi mu) : ImplE X (.Subscript e (.Slice lo hi none p2) pos) (mSlice m ml mu) := by
  intro env h σ H μ Q hr er br
  refine mxE.of (pe_slice sl_D peX poX poX) ?_
  refine he.seq hr er br fun v H1 d μ1 h1 hr1 er1 p1 r1 br1 => ?_
  refine hl.seq hr1 er1 br1 fun o H2 μ2 h2 hr2 er2 p2 br2 => ?_
  refine hu.seq hr2 er2 br2 fun o2 H3 μ3 h3 hr3 er3 p3 br3 => ?_
  exact ⟨d, h3, μ3, hr3, p3.rp hr2 (p2.rp hr1 r1), br3⟩

theorem callD {g : Value} {f : FA} (k : ∀ pins s σ H vs us Q, Inv X pins σ H s → Vals vs us → ∀ ds h μ, HRep X.prog X.w X.K H μ h → RepAll X.K H μ h.n ds vs → BR X.prog X.w X.K (rpD X.K) H μ h (f ds h) Q → wpAny (model X.prog X.w) X.A (call g us) (EP X pins σ Q) X.xe s) : CallD X g f := by
  intro pins s σ H vs us Q I rv ⟨ds, h, μ, hr, ra, br⟩
  exact k pins s σ H vs us Q I rv ds h μ hr ra br
/-- one argument -/
def fa1 (f : F1) : FA := fun ds h => match ds with
  | [d] => f d h
  | _ => .err
theorem callD1 {g : Value} {f : F1} (k : ∀ pins s σ H v u Q, Inv X pins σ H s → RelV v u → Vals [v] [u] → ∀ d h μ, HRep X.prog X.w X.K H μ h → Rep X.K H μ h.n d v → BR X.prog X.w X.K (rpD X.K) H μ h (f d h) Q → wpAny (model X.prog X.w) X.A (call g [u]) (EP X pins σ Q) X.xe s) : CallD X g (fa1 f) := by
  refine callD fun pins s σ H vs us Q I rv ds h μ hr ra br => ?_
  unfold fa1 at br
  split at br
  · cases ra with
    | cons r1 r2 =>
      cases r2
      obtain ⟨u, rfl, ru⟩ := vals1 rv
      exact k pins s σ H _ u Q I ru rv _ h μ hr r1 br
  · exact False.elim br
def lenF : F1 := fun d h => match seqD d h with
  | some ds => .ok (.int ds.length) h
  | none => .err
theorem call_lenD : CallD X (.builtin "len") (fa1 lenF) := by
  refine callD1 fun pins s σ H v u Q I ru rv d h μ hr r1 br => ?_
  unfold lenF at br
  split at br
  · rename_i ds q
    obtain ⟨a, vs, rfl, sq, ra⟩ := seqD_of hr r1 q
    refine call_len_seq pins s σ H _ _ Q I rv ⟨a, vs, rfl, sq, ?_⟩
    rw [← ra.length]
    exact br.pure hr (.int _)
  · exact False.elim br
def tupF : F1 := fun d h => match seqD d h with
  | some ds => .ok (.tup ds) h
  | none => .err
theorem call_tupD : CallD X (.type "tuple") (fa1 tupF) := by
  refine callD1 fun pins s σ H v u Q I ru rv d h μ hr r1 br => ?_
  unfold tupF at br
  split at br
  · rename_i ds q
    cases d with
    | tup es =>
      simp only [seqD, Option.some.injEq] at q
      subst q
      cases r1 with
      | @tup a vs _ st ra =>
        cases ru
        obtain ⟨its, r', pl, hz⟩ := I.tuple st.sq
        exact call_tuple_same pl ⟨.ref a, H, I, rfl, br.pure hr (.tup st ra)⟩
    | ref j =>
      obtain ⟨a, vs, rfl, sq, ra⟩ := lstD_of hr r1 (ds := ds) (by simpa [seqD, lstD] using q)
      cases ru
      obtain ⟨its, r', pl, hz⟩ := I.list sq
      have hlen := r'.length
      refine call_tuple_list pl.isList (fun h' kp => ?_) (by simp only [List.size_toArray] <;> omega)
      have I1 : Inv X pins σ H { s with heap := h' } := I.kept (t' := s.toks) kp
      exact tupEnd (s := { s with heap := h' }) (K := X.K) (n := 0) (t' := s.toks) I1 (fun b o e => Heap.get?_push_of_some _ e) (Nat.le_refl _) (Heap.get?_push_size _ rfl) rfl rfl rfl r' hz hr ra br
    | _ => cases q
  · exact False.elim br
def lstF : F1 := fun d h => match seqD d h with
  | some ds => newM (.lst 0 ds) h
  | none => .err
theorem call_lstD : CallD X (.type "list") (fa1 lstF) := by
  refine callD1 fun pins s σ H v u Q I ru rv d h μ hr r1 br => ?_
  unfold lstF at br
  split at br
  · rename_i ds q
    obtain ⟨a, vs, rfl, sq, ra⟩ := seqD_of hr r1 q
    exact call_list_of pins s σ H _ _ Q I rv ⟨a, vs, rfl, sq, fun p np => newLst hr ra np br⟩
  · exact False.elim br
def absF : F1 := fun d h => match d with
  | .int i => .ok (.int (if i < 0 then -i else i)) h
  | _ => .err
theorem call_absD : CallD X (.builtin "abs") (fa1 absF) := by
  refine callD1 fun pins s σ H v u Q I ru rv d h μ hr r1 br => ?_
  unfold absF at br
  split at br
  · cases r1
    exact call_abs pins s σ H _ _ Q I rv ⟨_, rfl, br.pure hr (.int _)⟩
  · exact False.elim br
def intF : F1 := fun d h => match d with
  | .int i => .ok (.int i) h
  | .bl k => .ok (.int (if k then 1 else 0)) h
  | _ => .err
theorem call_intD : CallD X (.type "int") (fa1 intF) := by
  refine callD1 fun pins s σ H v u Q I ru rv d h μ hr r1 br => ?_
  unfold intF at br
  split at br
  · cases r1
    exact call_int1 pins s σ H _ _ Q I rv (.inl ⟨_, rfl, br.pure hr (.int _)⟩)
  · cases r1
    exact call_int1 pins s σ H _ _ Q I rv (.inr ⟨_, rfl, br.pure hr (.int _)⟩)
  · exact False.elim br
/-- the ints of a row -/
def intsD : List D → Option (List Int) := mapO fun d => match d with
  | .int i => some i
  | _ => none
theorem intsD_of {K : PySem.W.Frag} {H : Hp} {μ : Nat → Addr} {n : Nat} : ∀ {ds : List D} {vs : List V} {ns : List Int}, RepAll K H μ n ds vs → intsD ds = some ns → vs = ns.map V.int
  | [], _, _, r, e => by cases r; cases e; rfl
  | d :: ds, _, ns, r, e => by
    cases r with
    | cons r1 r2 =>
      unfold intsD at e
      rw [mapO] at e
      split at e
      · rename_i y q
        split at e
        · rename_i ys q2
          cases e
          cases d <;> simp at q
          subst q
          cases r1
          rw [List.map_cons, intsD_of r2 q2]
        · cases e
      · cases e
def sumF : F1 := fun d h => match lstD d h with
  | some ds => match intsD ds with
    | some ns => .ok (.int ns.sum) h
    | none => .err
  | none => .err
theorem call_sumD (hc : X.calm = true) : CallD X (.builtin "sum") (fa1 sumF) := by
  refine callD1 fun pins s σ H v u Q I ru rv d h μ hr r1 br => ?_
  unfold sumF at br
  split at br
  · rename_i ds q
    split at br
    · rename_i ns q2
      obtain ⟨a, vs, rfl, sq, ra⟩ := lstD_of hr r1 q
      rw [intsD_of ra q2] at sq
      exact cr_sum hc pins s σ H _ _ Q I rv ⟨a, ns, rfl, sq, br.pure hr (.int _)⟩
    · exact False.elim br
  · exact False.elim br
def maxL : List Int → Option Int
  | [] => none
  | x :: xs => some (xs.foldl (fun a y => bif decide (a < y) then y else a) x)
theorem foldMax (P : Int → Int → Bool) (hp : ∀ a b, P a b = decide (a < b)) : ∀ (xs : List Int) (x : Int), (xs.foldl (fun a y => bif P a y then y else a) x ∈ x :: xs) ∧ ∀ y ∈ x :: xs, y ≤ xs.foldl (fun a y => bif P a y then y else a) x
  | [], x => ⟨List.mem_cons_self, fun y hy => by rw [List.mem_singleton.mp hy]; exact Int.le_refl _⟩
  | z :: xs, x => by
    obtain ⟨a, b⟩ := foldMax P hp xs (bif P x z then z else x)
    rw [List.foldl_cons]
    refine ⟨?_, fun y hy => ?_⟩
    · rcases List.mem_cons.mp a with e | a
      · rw [e]
        cases P x z
        · exact List.mem_cons_self
        · exact List.mem_cons_of_mem _ List.mem_cons_self
      · exact List.mem_cons_of_mem _ (List.mem_cons_of_mem _ a)
    · have b0 := b _ List.mem_cons_self
      rcases List.mem_cons.mp hy with e | hy
      · subst e
        refine Int.le_trans ?_ b0
        rw [hp]
        by_cases q : y < z
        · simp [q]; omega
        · simp [q]
      · rcases List.mem_cons.mp hy with e | hy
        · subst e
          refine Int.le_trans ?_ b0
          rw [hp]
          by_cases q : x < y
          · simp [q]
          · simp [q]; omega
        · exact b y (List.mem_cons_of_mem _ hy)
def maxF : F1 := fun d h => match lstD d h with
  | some ds => match intsD ds with
    | some ns => match maxL ns with
      | some m => .ok (.int m) h
      | none => .err
    | none => .err
  | none => .err
theorem call_maxD (hc : X.calm = true) : CallD X (.builtin "max") (fa1 maxF) := by
  refine callD1 fun pins s σ H v u Q I ru rv d h μ hr r1 br => ?_
  unfold maxF at br
  split at br
  · rename_i ds q
    split at br
    · rename_i ns q2
      split at br
      · rename_i m q3
        obtain ⟨a, vs, rfl, sq, ra⟩ := lstD_of hr r1 q
        rw [intsD_of ra q2] at sq
        cases ns with
        | nil => cases q3
        | cons x xs =>
          simp only [maxL, Option.some.injEq] at q3
          obtain ⟨m1, m2⟩ := foldMax (fun a b => decide (a < b)) (fun _ _ => rfl) xs x
          rw [q3] at m1 m2
          refine cr_max hc pins s σ H _ _ Q I rv ⟨a, x :: xs, rfl, sq, Nat.succ_pos _, fun k k1 k2 => ?_⟩
          have e : k = m := Int.le_antisymm (m2 k k1) (k2 m m1)
          rw [e]
          exact br.pure hr (.int _)
      · exact False.elim br
    · exact False.elim br
  · exact False.elim br
def blsD : List D → Option (List Bool) := mapO fun d => match d with
  | .bl i => some i
  | _ => none
theorem blsD_of {K : PySem.W.Frag} {H : Hp} {μ : Nat → Addr} {n : Nat} : ∀ {ds : List D} {vs : List V} {ns : List Bool}, RepAll K H μ n ds vs → blsD ds = some ns → vs = ns.map V.bl
  | [], _, _, r, e => by cases r; cases e; rfl
  | d :: ds, _, ns, r, e => by
    cases r with
    | cons r1 r2 =>
      unfold blsD at e
      rw [mapO] at e
      split at e
      · rename_i y q
        split at e
        · rename_i ys q2
          cases e
          cases d <;> simp at q
          subst q
          cases r1
          rw [List.map_cons, blsD_of r2 q2]
        · cases e
      · cases e
def allF : F1 := fun d h => match lstD d h with
  | some ds => match blsD ds with
    | some ns => .ok (.bl (ns.all id)) h
    | none => .err
  | none => .err
theorem call_allD (hc : X.calm = true) : CallD X (.builtin "all") (fa1 allF) := by
  refine callD1 fun pins s σ H v u Q I ru rv d h μ hr r1 br => ?_
  unfold allF at br
  split at br
  · rename_i ds q
    split at br
    · rename_i ns q2
      obtain ⟨a, vs, rfl, sq, ra⟩ := lstD_of hr r1 q
      rw [blsD_of ra q2] at sq
      exact cr_all hc pins s σ H _ _ Q I rv ⟨a, ns, rfl, sq, br.pure hr (.bl _)⟩
    · exact False.elim br
  · exact False.elim br
/-- sorted -/
def srtF : F1 := fun d h => match seqD d h with
  | some ds => bif okS allS ds && ds.all (D.low 40) then newM (.lst 0 (isort ds)) h else .err
  | none => .err
theorem call_srtD (hu : X.A.units + 64 < cLine) : CallD X (.builtin "sorted") (fa1 srtF) := by
  refine callD1 fun pins s σ H v u Q I ru rv d h μ hr r1 br => ?_
  unfold srtF at br
  split at br
  · rename_i ds q
    obtain ⟨lk, br⟩ := bif_all br
    rw [Bool.and_eq_true] at lk
    obtain ⟨P, F, hP⟩ := okS_fine lk.1
    obtain ⟨a, vs, rfl, sq, ra⟩ := seqD_of hr r1 q
    exact cr_sortD hu pins s σ H _ _ Q I rv ⟨a, vs, ds, isort ds, P, μ, h.n, rfl, sq, ra, F, hP, List.all_eq_true.mp lk.2, rfl, fun p ws np rw => newLst hr rw np br⟩
  · exact False.elim br
end
end Mi
set_option Elab.async false
set_option linter.all false
set_option autoImplicit false
set_option maxHeartbeats 1600000
namespace Mi
open PySem PySem.Spec PyProof.Rows L2 Mset
open PySem.W (EachIs)

section
variable {P : Program} {w : World} {K : PySem.W.Frag} {H : Hp} {μ : Nat → Addr} {h : MH}
/-- the list i of the small heap is written -/
theorem Post.wr {i : Nat} {ds es : List D} {vs ws : List V} (hr : HRep P w K H μ h) (hi : i < h.n) (hg : h.get i = some (.lst 0 ds)) (hH : H (μ i) = some (.lst vs)) (ra : RepAll K H μ h.n es ws) :
    Post P w K H μ h (upd H (μ i) (.lst ws)) μ (h.put i (.lst 0 es)) := by
  have hc : i < MH.cap := Nat.lt_of_lt_of_le hi hr.cap
  have sq : ∀ a us, TupN K H a us → TupN K (upd H (μ i) (.lst ws)) a us := by
    intro a us s
    rcases s with ⟨o, s, d⟩ | s
    · refine .inl ⟨o, ?_, d⟩
      rw [upd_ne (fun z => by subst z; rw [hH] at s; cases s)]
      exact s
    · exact .inr s
  have rps : ∀ ds vs, RepAll K H μ h.n ds vs → RepAll K (upd H (μ i) (.lst ws)) μ h.n ds vs := fun ds vs => RepAll.mono sq (fun _ _ => rfl) (Nat.le_refl _) ds vs
  have rp : ∀ d v, Rep K H μ h.n d v → Rep K (upd H (μ i) (.lst ws)) μ h.n d v := fun d v => Rep.mono sq (fun _ _ => rfl) (Nat.le_refl _) d v
  have self : (h.put i (.lst 0 es)).get i = some (.lst 0 es) := by rw [MH.get_put hc, if_pos rfl]
  have oth : ∀ j, j ≠ i → (h.put i (.lst 0 es)).get j = h.get j := fun j hj => by rw [MH.get_put hc, if_neg hj]
  have own : Own h μ (μ i) := ⟨i, _, hi, hg, rfl, rfl⟩
  have back : ∀ j oj, j < h.n → (h.put i (.lst 0 es)).get j = some oj → ∃ ok, h.get j = some ok ∧ ok.mut = oj.mut := fun j oj hj e => by
    by_cases hij : j = i
    · subst hij
      rw [self] at e
      cases e
      exact ⟨_, hg, rfl⟩
    · rw [oth j hij] at e
      exact ⟨oj, e, rfl⟩
  refine ⟨⟨fun j hj => ?_, fun j k oj ok hj hk ej ek mj mk q => ?_, hr.cap⟩, fun a o e n => ?_, fun _ _ => rfl, Nat.le_refl _, fun j o a b => absurd (Nat.lt_of_lt_of_le b a) (Nat.lt_irrefl _), fun j o hj e l => ?_, fun j o hj e => ?_⟩
  · by_cases hij : j = i
    · subst hij
      exact ⟨_, self, ws, upd_same, rps _ _ ra⟩
    · obtain ⟨o, e1, e2⟩ := hr.obj j hj
      refine ⟨o, (oth j hij).trans e1, ?_⟩
      have ne : o.mut = true → μ j ≠ μ i := fun m z => hij (hr.inj j i o _ hj hi e1 hg m rfl z)
      cases o with
      | lst lk ds => obtain ⟨us, e3, e4⟩ := e2; exact ⟨us, by rw [upd_ne (ne rfl)]; exact e3, rps _ _ e4⟩
      | frz ds =>
        obtain ⟨us, e3, e4⟩ := e2
        refine ⟨us, ?_, rps _ _ e4⟩
        rcases e3 with ⟨o, e3⟩ | e3
        · refine .inl ⟨o, ?_⟩
          rw [upd_ne (fun z => by rw [z, hH] at e3; cases e3)]
          exact e3
        · exact .inr e3
      | dct lk kvs =>
        obtain ⟨xs, e3, e4⟩ := e2
        exact ⟨xs, by rw [upd_ne (ne rfl)]; exact e3, Paired.mapP e4 fun q x k => ⟨k.key, k.dep, rp _ _ k.kr, let ⟨v, r1, r2⟩ := k.vr; ⟨v, r1, rp _ _ r2⟩⟩⟩
      | box m => obtain ⟨i1, i2, i3, e3, e5⟩ := e2; exact ⟨i1, i2, i3, by rw [upd_ne (ne rfl)]; exact e3, e5⟩
  · obtain ⟨o1, a1, b1⟩ := back j oj hj ej
    obtain ⟨o2, a2, b2⟩ := back k ok hk ek
    exact hr.inj j k o1 o2 hj hk a1 a2 (b1.trans mj) (b2.trans mk) q
  · rw [upd_ne (fun z => n (by rw [z]; exact own))]
    exact e
  · by_cases hij : j = i
    · subst hij
      rw [hg] at e
      cases e
      exact absurd rfl l
    · rw [oth j hij]
      exact e
  · by_cases hij : j = i
    · subst hij
      rw [hg] at e
      cases e
      exact ⟨_, self, rfl⟩
    · exact ⟨o, (oth j hij).trans e, rfl⟩
end

abbrev FM := D → List D → MH → R D
section
variable {X : Cx}
/-- the method of that name, at receivers that ok tells -/
def MtG (X : Cx) (name : Str) (ok : D → MH → Bool) (f : FM) : Prop :=
  ∀ (pins : List (Addr × Obj)) (s : Shared) (σ : L2.St) (H : Hp) (μ : Nat → Addr) (h : MH) (x : D) (v : V) (vv : Value), Inv X pins σ H s → RelV v vv → HRep X.prog X.w X.K H μ h → Rep X.K H μ h.n x v → ok x h = true →
    ∃ T id, PlainAttrs T ∧ Slot T name id ∧ typeOf (.builtin id) = pure (.type "method_descriptor") ∧ s.TypeIs vv T ∧ (∀ a, vv = .ref a → ∃ ob, s.heap.get? a = some ob ∧ ob.dict = none) ∧
      ∀ (s2 : Shared) (H2 : Hp) (μ2 : Nat → Addr) (h2 : MH) (ds : List D) (vs : List V) (us : List Value) (Q : VK), Inv X pins σ H2 s2 → HRep X.prog X.w X.K H2 μ2 h2 → Rep X.K H2 μ2 h2.n x v → RepAll X.K H2 μ2 h2.n ds vs → Vals vs us →
        BR X.prog X.w X.K (rpD X.K) H2 μ2 h2 (f x ds h2) Q → wpAny (model X.prog X.w) X.A (call (.builtin id) (vv :: us)) (EP X pins σ Q) X.xe s2
def mMeth (ok : D → MH → Bool) (f : FM) (m : ME) (ma : MA) : ME := fun env h => (m env h).bind fun x h1 => bif ok x h1 then (ma env h1).bind fun ds h2 => f x ds h2 else .err
section
variable {o e : Expr} {es : List Expr} {m : ME} {ma : MA} {name : Str} {apos cpos : Pos} {ok : D → MH → Bool} {f : FM}
theorem ie_meth (hm : MtG X name ok f) (ho : ImplE X o m) (ha : ImplA X (e :: es) ma)
    (hbase : attributeBase o name X.env (eval o X.env) = eval o X.env := by rfl)
    (hfew : ((backTo cpos (starEach (e :: es) X.env)).all (fun x => !x.1) && (backToKw cpos (keywordEach [] X.env)).all (fun x => x.1.isSome)
      && decide ((e :: es).length + ([] : List Keyword).length + (if ([] : List Keyword).isEmpty then 0 else 1) < 30)) = true := by rfl)
    (hline : (apos.endLine == cpos.line) = true := by rfl) (hs : starEach (e :: es) X.env = (false, eval e X.env) :: starEach es X.env := by rfl) (hplain : (backTo cpos (starEach es X.env)).any (·.1) = false := by rfl) :
    ImplE X (.Call (.Attribute o name apos) (e :: es) [] cpos) (mMeth ok f m ma) := by
  intro env h σ H μ Q hr er br
  intro pins s I
  refine wpAny_Call_method_late hbase hfew hline rfl (thn (ho env h σ H μ _ hr er (BR.bind (rp := rpD X.K) hr br) pins s I) fun vv s1 ⟨v, H1, I1, r1, x, μ1, h1, p1, rx, br1⟩ => ?_)
  obtain ⟨lk, br1⟩ := bif_all br1
  obtain ⟨T, id, pa, slot, hty, hT, hd, k⟩ := hm pins s1 σ H1 μ1 h1 x v vv I1 r1 p1.rep rx lk
  refine ⟨T, id, pa, slot, hty, hT, hd, ?_⟩
  have hA := ha env h1 σ H1 μ1 _ p1.rep (p1.er hr er) (BR.bind (rp := rpL X.K) p1.rep br1) cpos pins s1 I1
  rw [hs] at hA ⊢
  refine Calls.callWith_builtin (by show (false || (backTo cpos (starEach es X.env)).any (·.1)) = false; rw [hplain] <;> rfl) (Calls.evalArgs_plain ?_)
  exact thn hA fun us s2 ⟨vs, H2, I2, r2, ds, μ2, h2, p2, ra, br2⟩ => k s2 H2 μ2 h2 ds vs us Q I2 p2.rep (p2.rp p1.rep rx) ra r2 br2
theorem ie_meth0 (hm : MtG X name ok f) (ho : ImplE X o m)
    (hbase : attributeBase o name X.env (eval o X.env) = eval o X.env := by rfl) (hline : (apos.endLine == cpos.line) = true := by rfl) :
    ImplE X (.Call (.Attribute o name apos) [] [] cpos) (mMeth ok f m mNil) := by
  intro env h σ H μ Q hr er br
  intro pins s I
  refine wpAny_Call_method0_late hbase hline (thn (ho env h σ H μ _ hr er (BR.bind (rp := rpD X.K) hr br) pins s I) fun vv s1 ⟨v, H1, I1, r1, x, μ1, h1, p1, rx, br1⟩ => ?_)
  obtain ⟨lk, br1⟩ := bif_all br1
  obtain ⟨T, id, pa, slot, hty, hT, hd, k⟩ := hm pins s1 σ H1 μ1 h1 x v vv I1 r1 p1.rep rx lk
  exact ⟨T, id, pa, slot, hty, hT, hd, Calls.callWith_builtin rfl (PySem.evalArgs_none (k s1 H1 μ1 h1 [] [] [] Q I1 p1.rep rx .nil .nil br1))⟩
end
def okL (x : D) (h : MH) : Bool := match lstD x h with
  | some _ => true
  | none => false
/-- a method of lists -/
theorem mtL {name : Str} {id : String} {f : FM} (slot : Slot "list" name id) (hty : typeOf (.builtin id) = pure (.type "method_descriptor"))
    (k : ∀ pins s σ H v vs vv us Q, Inv X pins σ H s → RelV v vv → Vals vs us → ∀ x ds h μ, HRep X.prog X.w X.K H μ h → Rep X.K H μ h.n x v → RepAll X.K H μ h.n ds vs → BR X.prog X.w X.K (rpD X.K) H μ h (f x ds h) Q →
      wpAny (model X.prog X.w) X.A (call (.builtin id) (vv :: us)) (EP X pins σ Q) X.xe s) : MtG X name okL f := by
  intro pins s σ H μ h x v vv I rv hr rx ok
  unfold okL at ok
  split at ok
  · rename_i ds q
    obtain ⟨a, vs, rfl, sq, ra⟩ := lstD_of hr rx q
    cases rv
    obtain ⟨its, _, pl, _⟩ := I.list sq
    obtain ⟨o, n, e, c, hd, hdt⟩ := pl
    exact ⟨"list", _, PySem.F.plainAttrs_list, slot, hty, ⟨o, e, c⟩, fun b z => by cases z; exact ⟨o, e, hd⟩, fun s2 H2 μ2 h2 es ws us Q I2 hr2 rx2 ra2 rs2 br2 => k pins s2 σ H2 (.ref a) ws _ us Q I2 rfl rs2 x es h2 μ2 hr2 rx2 ra2 br2⟩
  · cases ok
def appF : FM := fun x ds h => match ds with
  | [d] => match ownD x h with
    | some (i, 0, es) => bif lenOk es then .ok .non (h.put i (.lst 0 (es ++ [d]))) else .err
    | _ => .err
  | _ => .err
theorem mt_appD : MtG X "append" okL appF := by
  refine mtL PySem.F.slot_list_append PySem.F.type_list_append fun pins s σ H v vs vv us Q I rv rvs x ds h μ hr rx ra br => ?_
  unfold appF at br
  split at br
  · rename_i d
    split at br
    · rename_i i es q
      obtain ⟨lk, br⟩ := bif_all br
      obtain ⟨ex, hi, hg, ev, ws, hH, rw⟩ := ownD_of hr rx q
      subst ev
      cases ra with
      | cons r1 r2 =>
        cases r2
        have l1 := Nat.ble_eq.mp lk
        have l2 := rw.length
        exact mt_append pins s σ H _ _ vv us Q I rv rvs ⟨μ i, ws, _, rfl, rfl, hH, by rw [sizeLine_eq]; omega, br _ μ _ (Post.wr hr hi hg hH (rw.append (.cons r1 .nil))) .non⟩
    · exact False.elim br
  · exact False.elim br
def extF : FM := fun x ds h => match ds with
  | [d] => match ownD x h with
    | some (i, 0, es) => match seqD d h with
      | some fs => bif lenOk es && lenOk fs then .ok .non (h.put i (.lst 0 (es ++ fs))) else .err
      | none => .err
    | _ => .err
  | _ => .err
section
variable {prog : Program} {w : World} {A : Around} {E : Value → Shared → Prop} {s : Shared}
/-- xs.extend(ys), ys a list or a tuple of any kind -/
theorem meetsExt {l b : Addr} : MeetsIn prog w (Builtin.«list.extend» ⟨[.ref l, .ref b], []⟩) (fun _ R s => ∃ (T : String) (o : Obj) (its its2 : Array Value) (n n2 : Nat), (T = "list" ∨ T = "tuple") ∧ s.heap.get? l = some { cls := .type "list", data := .seq its n } ∧ s.heap.get? b = some o ∧ o.cls = .type T ∧ o.data = .seq its2 n2 ∧ its.size + its2.size ≤ sizeLine ∧
    R (.ok (.ret .none)) { s with heap := s.heap.update l (Obj.mapSeq (· ++ its2)) }) :=
  .of_wp fun A R s ⟨T, o, its, its2, n, n2, hT, hl, ho, hc, hd, hz, h⟩ => by
    have hlong : ¬ (!its.isEmpty && Builtin.List.listTooLong (its.size + its2.size)) = true := by
      rw [notLongL hz, Bool.and_false]
      exact Bool.false_ne_true
    show wpAny _ _ (Builtin.List.listExtendWith (.ref l) (.ref b) .none) _ _ s
    unfold Builtin.List.listExtendWith
    refine wpAny_bind (wpAny_typeOf ⟨o, ho, hc⟩ ?_)
    have h1 : (Builtin.List.listSameRef (.ref l) (.ref b) || Value.type T == Value.type "list" || Value.type T == Value.type "tuple") = true := by
      rcases hT with rfl | rfl <;> simp
    simp only [h1, if_true]
    refine wpAny_bind (listItems_at ho hd ?_)
    refine wpAny_bind (listItems_at hl rfl ?_)
    rw [if_neg hlong]
    refine wpAny_bind (listUpdate_at hl rfl ?_ (by omega) (by rw [Array.size_append]; omega))
    exact wpAny_pure ⟨_, rfl, h⟩
end
theorem mt_extD : MtG X "extend" okL extF := by
  refine mtL PySem.F.slot_list_extend PySem.F.type_list_extend fun pins s σ H v vs vv us Q I rv rvs x ds h μ hr rx ra br => ?_
  unfold extF at br
  split at br
  · rename_i d
    split at br
    · rename_i i es q
      split at br
      · rename_i fs q2
        obtain ⟨lk, br⟩ := bif_all br
        rw [Bool.and_eq_true] at lk
        obtain ⟨ex, hi, hg, ev, ws, hH, rw⟩ := ownD_of hr rx q
        subst ev
        cases ra with
        | cons r1 r2 =>
          cases r2
          obtain ⟨b, ws2, ev2, sq, rw2⟩ := seqD_of hr r1 q2
          subst ev2
          obtain ⟨u, rfl, ru⟩ := vals1 rvs
          cases ru
          cases rv
          have l1 := Nat.ble_eq.mp lk.1
          have l2 := rw.length
          have l3 := Nat.ble_eq.mp lk.2
          have l4 := rw2.length
          obtain ⟨z, its, n, r, hl, e⟩ := I.lstM hH
          have fin : ∀ (T : String) (its2 : List Value) (o : Obj) (n2 : Nat), (T = "list" ∨ T = "tuple") → Vals ws2 its2 → s.heap.get? b = some o → o.cls = .type T → o.data = .seq its2.toArray n2 → wpAny (model X.prog X.w) X.A (call (.builtin "list.extend") [.ref (μ i), .ref b]) (EP X pins σ Q) X.xe s := by
            intro T its2 o n2 hT rv2 ho hc hd
            have hl2 := rv2.length
            refine call_meetsIn PySem.F.slot_list_extend ⟨_, e, rfl⟩ PySem.F.entry_list_extend (PySem.F.args_list_extend_2 _ _) meetsExt ⟨T, o, _, _, n, n2, hT, e, ho, hc, hd, by rw [List.size_toArray, List.size_toArray, sizeLine_eq]; omega, ?_⟩
            refine ⟨.non, _, I.lset (its' := its ++ its2) (t' := s.toks) hH e (by simp) (r.append rv2) ?_, rfl, br _ μ _ (Post.wr hr hi hg hH (rw.append rw2)) .non⟩
            rw [List.length_append, sizeLine_eq]
            omega
          rcases sq with sq | sq
          · obtain ⟨its2, rv2, pl, _⟩ := I.list sq
            obtain ⟨o, n2, e2, hc, _, hd⟩ := pl
            exact fin "list" its2 o n2 (.inl rfl) rv2 e2 hc hd
          · obtain ⟨its2, rv2, ⟨o, ho, hc, m, hd⟩, _⟩ := I.tuple sq
            exact fin "tuple" its2 o m (.inr rfl) rv2 ho hc hd
      · exact False.elim br
    · exact False.elim br
  · exact False.elim br
def lastD : List D → Option (D × List D)
  | [] => none
  | [x] => some (x, [])
  | x :: xs => match lastD xs with
    | some (y, ys) => some (y, x :: ys)
    | none => none
/-- xs.pop(i), xs.pop() -/
def popF : FM := fun x ds h => match ownD x h with
  | some (i, 0, es) => match ds with
    | [.int j] => bif decide (0 ≤ j) && lenOk es then match es[j.toNat]? with
      | some d => .ok d (h.put i (.lst 0 (es.eraseIdx j.toNat)))
      | none => .err
      else .err
    | [] => match es[es.length - 1]? with
      | some d => .ok d (h.put i (.lst 0 es.dropLast))
      | none => .err
    | _ => .err
  | _ => .err
theorem RepAll.dropLast {K : PySem.W.Frag} {H : Hp} {μ : Nat → Addr} {n : Nat} {ds : List D} {vs : List V} (r : RepAll K H μ n ds vs) : RepAll K H μ n ds.dropLast vs.dropLast := by
  rw [List.dropLast_eq_take, List.dropLast_eq_take, ← r.length]
  exact r.take _
theorem mt_popD : MtG X "pop" okL popF := by
  refine mtL PySem.F.slot_list_pop PySem.F.type_list_pop fun pins s σ H v vs vv us Q I rv rvs x ds h μ hr rx ra br => ?_
  unfold popF at br
  split at br
  · rename_i i es q
    obtain ⟨ex, hi, hg, ev, ws, hH, rw⟩ := ownD_of hr rx q
    subst ev
    split at br
    · rename_i j
      obtain ⟨lk, br⟩ := bif_all br
      rw [Bool.and_eq_true] at lk
      have h0 := of_decide_eq_true lk.1
      split at br
      · rename_i d qd
        obtain ⟨y, qy, ry⟩ := rw.get qd
        cases ra with
        | cons r1 r2 =>
          cases r2
          cases r1
          have l1 := Nat.ble_eq.mp lk.2
          have l2 := rw.length
          obtain ⟨hj, _⟩ := List.getElem?_eq_some_iff.mp qy
          have e1 : j < (ws.length : Int) := by omega
          have P := Post.wr (es := es.eraseIdx j.toNat) hr hi hg hH (rw.eraseIdx j.toNat)
          exact mt_popAt pins s σ H _ _ vv us Q I rv rvs ⟨μ i, ws, j, j.toNat, y, rfl, rfl, hH, by omega, by omega, seqIndex_of h0 e1, qy, br _ μ _ P (P.rp hr ry)⟩
      · exact False.elim br
    · split at br
      · rename_i d qd
        obtain ⟨y, qy, ry⟩ := rw.get qd
        cases ra
        have P := Post.wr (es := es.dropLast) hr hi hg hH rw.dropLast
        rw [rw.length] at qy
        exact mt_pop pins s σ H _ _ vv us Q I rv rvs ⟨μ i, ws, y, rfl, rfl, hH, qy, br _ μ _ P (P.rp hr ry)⟩
      · exact False.elim br
    · exact False.elim br
  · exact False.elim br
/-- how many equal d -/
def cntD (x d : D) (h : MH) : R D := match seqD x h with
  | some es => match mapO (datH h 20) es with
    | some xs => match datH h 20 d with
      | some a => bif shp (.list xs) && shp a then .ok (.int ((xs.countP fun y => PyData.eqv y a : Nat) : Int)) h else .err
      | none => .err
    | none => .err
  | none => .err
def cntF : FM := fun x ds h => match ds with
  | [d] => cntD x d h
  | _ => .err
def okS2 (x : D) (h : MH) : Bool := match seqD x h with
  | some _ => true
  | none => false
theorem mt_cntD (hu : X.A.units + 70 < cLine) : MtG X "count" okS2 cntF := by
  intro pins s σ H μ h x v vv I rv hr rx ok
  have run : ∀ {s2 : Shared} {H2 : Hp} {μ2 : Nat → Addr} {h2 : MH} {es : List D} {ws : List V} {us : List Value} {Q : VK} {a : Addr}, Inv X pins σ H2 s2 → HRep X.prog X.w X.K H2 μ2 h2 → Rep X.K H2 μ2 h2.n x (.ref a) → RepAll X.K H2 μ2 h2.n es ws → Vals ws us →
      BR X.prog X.w X.K (rpD X.K) H2 μ2 h2 (cntF x es h2) Q → ∃ (xs : List PyData) (d : PyData) (u : Value) (as bs : List Addr) (its : List Value), us = [u] ∧ (s2.heap.IsList a its.toArray ∨ s2.heap.IsTuple a its.toArray) ∧ ReadsAll s2.heap its.toArray.toList xs as ∧ Reads s2.heap u d bs ∧ PyData.plainAll xs = true ∧ d.plain = true ∧
        X.A.units + 1 + min (PyData.depthAll xs) d.depth < cLine ∧ EP X pins σ Q (.int ((xs.countP fun y => PyData.eqv y d : Nat) : Int) s2.toks) { s2 with toks := s2.toks + 1 } := by
    intro s2 H2 μ2 h2 es ws us Q a I2 hr2 rx2 ra2 rs2 br2
    unfold cntF at br2
    split at br2
    · rename_i d
      unfold cntD at br2
      split at br2
      · rename_i fs q
        split at br2
        · rename_i xs q2
          split at br2
          · rename_i da q3
            obtain ⟨lk, br2⟩ := bif_all br2
            rw [Bool.and_eq_true] at lk
            cases ra2 with
            | cons r1 r2 =>
              cases r2
              obtain ⟨u, rfl, ru⟩ := vals1 rs2
              obtain ⟨b, vs, eb, sq, ra⟩ := seqD_of hr2 rx2 q
              cases eb
              obtain ⟨bs, rd⟩ := Dp.reads I2 _ _ _ (datH_dp hr2 20 _ _ _ r1 q3) ru
              have dps := mapO_dp (datH_dp hr2 20) ra q2
              have l1 : (PyData.list xs).depth ≤ 64 := SeqAt.depth_of_shaped lk.1
              rw [PyData.depth] at l1
              have p1 : (PyData.list xs).plain = true := PyData.plain_of_canLay0 _ (SeqAt.canLay_of_shaped lk.1)
              rw [PyData.plain] at p1
              have fin : EP X pins σ Q (.int ((xs.countP fun y => PyData.eqv y da : Nat) : Int) s2.toks) { s2 with toks := s2.toks + 1 } := ⟨.int _, H2, I2.tok _, ⟨_, rfl⟩, br2.pure hr2 (.int _)⟩
              have un : X.A.units + 1 + min (PyData.depthAll xs) da.depth < cLine := by have := Nat.min_le_left (PyData.depthAll xs) da.depth; omega
              rcases sq with sq | sq
              · obtain ⟨its, rv2, pl, _⟩ := I2.list sq
                obtain ⟨as, rs⟩ := Dp.readsAll I2 _ _ _ dps rv2
                exact ⟨xs, da, u, as, bs, its, rfl, .inl pl.isList, by simpa using rs, rd, p1, PyData.plain_of_canLay0 _ (SeqAt.canLay_of_shaped lk.2), un, fin⟩
              · obtain ⟨its, rv2, ⟨o, e1, e2, n, e3⟩, _⟩ := I2.tuple sq
                obtain ⟨as, rs⟩ := Dp.readsAll I2 _ _ _ dps rv2
                exact ⟨xs, da, u, as, bs, its, rfl, .inr ⟨o, e1, e2, n, e3⟩, by simpa using rs, rd, p1, PyData.plain_of_canLay0 _ (SeqAt.canLay_of_shaped lk.2), un, fin⟩
          · exact False.elim br2
        · exact False.elim br2
      · exact False.elim br2
    · exact False.elim br2
  unfold okS2 at ok
  split at ok
  · rename_i ds q
    cases x with
    | tup es =>
      cases rx with
      | @tup a vs _ st ra =>
        cases rv
        have ob : ∃ o, s.heap.get? a = some o ∧ o.cls = .type "tuple" ∧ o.dict = none := by
          rcases st with ⟨o, e, dn⟩ | ⟨o, its, n, e, c, dn, _⟩
          · obtain ⟨e1, _, _, _, o', e2, c, _⟩ := I.hok a _ e
            rw [e1] at e2
            cases e2
            exact ⟨o, e1, c, dn⟩
          · exact ⟨o, I.kIn a o e, c, dn⟩
        obtain ⟨o, e, c, dn⟩ := ob
        refine ⟨"tuple", _, PySem.F.plainAttrs_tuple, PySem.F.slot_tuple_count, PySem.F.type_tuple_count, ⟨o, e, c⟩, fun b z => by cases z; exact ⟨o, e, dn⟩, fun s2 H2 μ2 h2 es ws us Q I2 hr2 rx2 ra2 rs2 br2 => ?_⟩
        obtain ⟨xs, d, u, as, bs, its, rfl, il, rs, rd, p1, p2, un, fin⟩ := run I2 hr2 rx2 ra2 rs2 br2
        rcases il with il | il
        · obtain ⟨o1, n1, a1⟩ := il
          cases rx2 with
          | tup st2 _ =>
            obtain ⟨_, _, ⟨o2, b1, b2, _⟩, _⟩ := I2.tuple st2.sq
            rw [n1] at b1
            cases b1
            rw [b2] at a1
            exact absurd a1.1 (by decide)
        · exact PySem.SeqAt.count_tuple_data il rs rd p1 p2 un fin
    | ref j =>
      obtain ⟨a, vs, rfl, sq, ra⟩ := lstD_of hr rx (ds := ds) (by simpa [seqD, lstD] using q)
      cases rv
      obtain ⟨its, _, pl, _⟩ := I.list sq
      obtain ⟨o, n, e, c, hd, hdt⟩ := id pl
      refine ⟨"list", _, PySem.F.plainAttrs_list, PySem.F.slot_list_count, PySem.F.type_list_count, ⟨o, e, c⟩, fun b z => by cases z; exact ⟨o, e, hd⟩, fun s2 H2 μ2 h2 es ws us Q I2 hr2 rx2 ra2 rs2 br2 => ?_⟩
      obtain ⟨xs, d, u, as, bs, its, rfl, il, rs, rd, p1, p2, un, fin⟩ := run I2 hr2 rx2 ra2 rs2 br2
      rcases il with il | il
      · exact PySem.SeqAt.count_list_data il rs rd p1 p2 un fin
      · obtain ⟨o1, n1, a1, _⟩ := il
        have fin2 : ∃ ys, SqL X.K H2 a ys := by
          cases rx2 with
          | @ref i hi =>
            obtain ⟨o2, e1, e2⟩ := hr2.obj j hi
            cases o2 with
            | lst lk ds => obtain ⟨vs, e3, _⟩ := e2; exact ⟨vs, SqL.of e3⟩
            | frz ds =>
              obtain ⟨vs, e3, _⟩ := e2
              rcases e3 with ⟨o, e3⟩ | e3
              · exact ⟨vs, .inl (.inr ⟨o, e3⟩)⟩
              · exact ⟨vs, .inr e3⟩
            | dct lk kvs =>
              unfold cntF at br2
              split at br2
              · unfold cntD at br2
                simp only [seqD, e1] at br2
                exact False.elim br2
              · exact False.elim br2
            | box m =>
              unfold cntF at br2
              split at br2
              · unfold cntD at br2
                simp only [seqD, e1] at br2
                exact False.elim br2
              · exact False.elim br2
        obtain ⟨ys, sq2⟩ := fin2
        obtain ⟨_, _, pl2, _⟩ := I2.list sq2
        obtain ⟨o2, b1, b2, _⟩ := pl2.isList
        rw [n1] at b1
        cases b1
        rw [b2] at a1
        exact absurd a1 (by decide)
    | _ => cases q
  · cases ok
/-- xs.index(d) -/
def idxOf (d : PyData) : List PyData → Nat → Option Nat
  | [], _ => none
  | x :: xs, j => bif PyData.eqv x d then some j else idxOf d xs (j + 1)
theorem idxOf_spec (d : PyData) : ∀ (xs : List PyData) (k j : Nat), idxOf d xs k = some j → ∃ i, j = k + i ∧ ∃ z, xs[i]? = some z ∧ PyData.eqv z d = true ∧ ∀ (m : Nat) (z' : PyData), m < i → xs[m]? = some z' → PyData.eqv z' d = false
  | [], k, j, e => by cases e
  | x :: xs, k, j, e => by
    rw [idxOf] at e
    cases q : PyData.eqv x d with
    | true =>
      rw [q] at e
      cases e
      exact ⟨0, rfl, x, rfl, q, fun m z' hm => absurd hm (Nat.not_lt_zero _)⟩
    | false =>
      rw [q] at e
      obtain ⟨i, e1, z, e2, e3, e4⟩ := idxOf_spec d xs (k + 1) j e
      refine ⟨i + 1, by omega, z, by simpa using e2, e3, fun m z' hm hz => ?_⟩
      cases m with
      | zero =>
        have : x = z' := by simpa using hz
        rw [← this]
        exact q
      | succ m => exact e4 m z' (by omega) (by simpa using hz)
def idxF : FM := fun x ds h => match ds with
  | [d] => both d x h fun a b => match b with
    | .list xs => match idxOf a xs 0 with
      | some j => .ok (.int (j : Nat)) h
      | none => .err
    | _ => .err
  | _ => .err
theorem mt_idxD (hu : X.A.units + 65 < cLine) : MtG X "index" okL idxF := by
  refine mtL PySem.F.slot_list_index PySem.F.type_list_index fun pins s σ H v vs vv us Q I rv rvs x ds h μ hr rx ra br => ?_
  unfold idxF at br
  split at br
  · rename_i d
    cases ra with
    | cons r1 r2 =>
      cases r2
      obtain ⟨a, b, da, db, sa, sb, br⟩ := both_of hr r1 rx br
      split at br
      · rename_i xs
        split at br
        · rename_i j q
          obtain ⟨i, e1, z, e2, e3, e4⟩ := idxOf_spec a xs 0 j q
          rw [Nat.zero_add] at e1
          subst e1
          have ev : ∃ l, v = .ref l := by cases db; exact ⟨_, rfl⟩
          obtain ⟨l, rfl⟩ := ev
          exact mt_indexD hu pins s σ H _ _ vv us Q I rv rvs ⟨l, _, a, xs, j, z, rfl, rfl, db, da, sb, sa, e2, e3, e4, br.pure hr (.int _)⟩
        · exact False.elim br
      · exact False.elim br
  · exact False.elim br
end
end Mi
set_option Elab.async false
set_option linter.all false
set_option autoImplicit false
set_option maxHeartbeats 1600000
namespace Mi
open PySem PySem.Spec PyProof.Rows L2 Mset
open PySem.W (EachIs)

section
variable {X : Cx} {a b c e : Expr} {rest : List Expr} {ma mb mc m : ME} {ta tb tc : MT} {pos : Pos}
def mxW (X : Cx) (e : Expr) : TT := fun σ H Q => ∀ (whole : Sem Value) (pins : List (Addr × Obj)) (s : Shared), Inv X pins σ H s → wpAny (model X.prog X.w) X.A (isTrue e X.env whole) (TP X pins σ Q) X.xe s
theorem pwX : PW X e (mxW X e) := ⟨fun whole pins s _ _ _ I h => h whole pins s I⟩
theorem mxW.of {t : TT} (h : PW X e t) {σ : L2.St} {H : Hp} {Q : Bool → Hp → Prop} (x : t σ H Q) : mxW X e σ H Q := fun whole pins s I => h.run whole pins s σ H Q I x
theorem mxW.mono {σ : L2.St} {H : Hp} {Q Q' : Bool → Hp → Prop} (x : mxW X e σ H Q) (m : ∀ v H', Q v H' → Q' v H') : mxW X e σ H Q' := fun whole pins s I =>
  wpAny_mono (x whole pins s I) (fun _ _ ⟨H', a, q⟩ => ⟨H', a, m _ _ q⟩) fun _ _ z => z
def ImplW (X : Cx) (e : Expr) (m : MT) : Prop := ∀ env h σ H μ Q, HRep X.prog X.w X.K H μ h → ERep X.K H μ h.n env σ → BR X.prog X.w X.K rpB H μ h (m env h) Q → mxW X e σ H Q
theorem ImplW.seq {m : MT} (he : ImplW X e m) {env : Ev} {h : MH} {σ : L2.St} {H : Hp} {μ : Nat → Addr} (hr : HRep X.prog X.w X.K H μ h) (er : ERep X.K H μ h.n env σ)
    {α β : Type} {rp : Hp → (Nat → Addr) → Nat → α → β → Prop} {f : Bool → MH → R α} {Q : β → Hp → Prop} (br : BR X.prog X.w X.K rp H μ h ((m env h).bind f) Q) {Q' : Bool → Hp → Prop}
    (k : ∀ d H1 μ1 h1, HRep X.prog X.w X.K H1 μ1 h1 → ERep X.K H1 μ1 h1.n env σ → Post X.prog X.w X.K H μ h H1 μ1 h1 → BR X.prog X.w X.K rp H1 μ1 h1 (f d h1) Q → Q' d H1) :
    mxW X e σ H Q' :=
  (he env h σ H μ _ hr er (BR.bind (rp := rpB) hr br)).mono fun v H1 ⟨d, μ1, h1, p, r, q⟩ => by
    have r : d = v := r
    subst r
    exact k d H1 μ1 h1 p.rep (p.er hr er) p q
/-- a value's truth -/
def truD (d : D) (h : MH) : Option Bool := match d with
  | .bl b => some b
  | .int i => some (i != 0)
  | .non => some false
  | .str _ => none
  | x => match seqD x h with
    | some ds => some (!ds.isEmpty)
    | none => none
theorem truD_of {P : Program} {w : World} {K : PySem.W.Frag} {H : Hp} {μ : Nat → Addr} {h : MH} (hr : HRep P w K H μ h) {d : D} {v : V} (r : Rep K H μ h.n d v) {k : Bool} (e : truD d h = some k) : TruV K v H k := by
  have sq : ∀ ds, seqD d h = some ds → k = !ds.isEmpty → TruV K v H k := by
    intro ds q ek
    obtain ⟨a, vs, rfl, sq, ra⟩ := seqD_of hr r q
    have el : ds.isEmpty = vs.isEmpty := by
      cases ra <;> rfl
    rcases sq with sq | sq
    · exact .inl ⟨vs, sq, by rw [ek, el]⟩
    · exact .inr (.inl ⟨vs, sq, by rw [ek, el]⟩)
  cases d with
  | bl b => cases r; simp only [truD, Option.some.injEq] at e; exact e.symm
  | int i => cases r; simp only [truD, Option.some.injEq] at e; exact e.symm
  | non => cases r; simp only [truD, Option.some.injEq] at e; exact e.symm
  | str x => cases e
  | tup ds =>
    simp only [truD] at e
    split at e
    · rename_i es q
      exact sq es q (Option.some.inj e).symm
    · cases e
  | ref i =>
    simp only [truD] at e
    split at e
    · rename_i es q
      exact sq es q (Option.some.inj e).symm
    · cases e
def mTV (m : ME) : MT := fun env h => (m env h).bind fun d h1 => match truD d h1 with
  | some b => .ok b h1
  | none => .err
theorem it_val (he : ImplE X e m) (hp : ∀ whole, isTrue e X.env whole = (do let v ← whole; standAt e.pos; holding [v] (truthy v)) := by intro _; rfl) : ImplT X e (mTV m) := by
  intro env h σ H μ Q hr er br
  refine mxT.of (pt_truth peX hp) ?_
  refine he.seq hr er br fun v H1 d μ1 h1 hr1 er1 p1 r1 br1 => ?_
  split at br1
  · rename_i b q
    exact ⟨b, truD_of hr1 r1 q, br1.pure hr1 rfl⟩
  · exact False.elim br1
/-- a bool's truth -/
def mTB (m : ME) : MT := fun env h => (m env h).bind fun d h1 => match d with
  | .bl b => .ok b h1
  | _ => .err
theorem it_cmp {op : CmpOp} {f : F2} (ho : Op2 X (compareOp op) f) (ha : ImplE X a ma) (hb : ImplE X b mb) (hm : behindInMarks op b = false := by rfl) : ImplT X (.Compare a [op] [b] pos) (mTB (mBin f ma mb)) := by
  intro env h σ H μ Q hr er br
  refine mxT.of (pt_cmpR ho peX peX hm) ?_
  have br : BR X.prog X.w X.K rpB H μ h ((ma env h).bind fun x h1 => (mb env h1).bind fun y h2 => (f x y h2).bind fun d h1 => match d with | .bl b => .ok b h1 | _ => .err) Q := by
    refine R.all_bind.mpr (R.all_mono (R.all_bind.mp (R.all_bind.mp br)) fun x h1 q => ?_)
    exact R.all_bind.mpr (R.all_mono (R.all_bind.mp q) fun y h2 q2 => R.all_bind.mpr q2)
  refine two (Q' := _) ha hb hr er br fun v u H2 x y μ2 h2 hr2 er2 _ rx ry br2 => ?_
  refine ⟨x, y, h2, μ2, hr2, rx, ry, (BR.bind (rp := rpD X.K) hr2 br2).mono fun z H3 ⟨dz, μ3, h3, p3, rz, br3⟩ => ?_⟩
  split at br3
  · cases rz
    exact ⟨_, rfl, br3.pure p3.rep rfl⟩
  · exact False.elim br3
theorem it_w {m : MT} (h : ImplW X e m) : ImplT X e m := fun env hh σ H μ Q hr er br => mxT.of (PW.pt pwX) (h env hh σ H μ Q hr er br)
def mAnd (ta tb : MT) : MT := fun env h => (ta env h).bind fun k h1 => bif k then tb env h1 else .ok false h1
def mOr (ta tb : MT) : MT := fun env h => (ta env h).bind fun k h1 => bif k then .ok true h1 else tb env h1
def mNot (ta : MT) : MT := fun env h => (ta env h).bind fun k h1 => .ok (!k) h1
theorem iw_and1 (ha : ImplT X a ta) : ImplW X (.BoolOp .And [a] pos) ta := fun env h σ H μ Q hr er br => mxW.of (pw_and1 ptX) (ha env h σ H μ Q hr er br)
theorem iw_or1 (ha : ImplT X a ta) : ImplW X (.BoolOp .Or [a] pos) ta := fun env h σ H μ Q hr er br => mxW.of (pw_or1 ptX) (ha env h σ H μ Q hr er br)
theorem iw_and (ha : ImplT X a ta) (hb : ImplW X (.BoolOp .And (b :: rest) pos) tb) : ImplW X (.BoolOp .And (a :: b :: rest) pos) (mAnd ta tb) := by
  intro env h σ H μ Q hr er br
  refine mxW.of (pw_and ptX pwX) ?_
  refine ha.seq hr er br fun k H1 μ1 h1 hr1 er1 p1 br1 => ?_
  cases k with
  | true => rw [if_pos rfl]; exact hb env h1 σ H1 μ1 Q hr1 er1 br1
  | false => rw [if_neg (by decide)]; exact br1.pure hr1 rfl
theorem iw_or (ha : ImplT X a ta) (hb : ImplW X (.BoolOp .Or (b :: rest) pos) tb) : ImplW X (.BoolOp .Or (a :: b :: rest) pos) (mOr ta tb) := by
  intro env h σ H μ Q hr er br
  refine mxW.of (pw_or ptX pwX) ?_
  refine ha.seq hr er br fun k H1 μ1 h1 hr1 er1 p1 br1 => ?_
  cases k with
  | true => rw [if_pos rfl]; exact br1.pure hr1 rfl
  | false => rw [if_neg (by decide)]; exact hb env h1 σ H1 μ1 Q hr1 er1 br1
theorem it_not (ha : ImplT X a ta) : ImplT X (.UnaryOp .Not a pos) (mNot ta) := by
  intro env h σ H μ Q hr er br
  refine mxT.of (pt_not ptX) ?_
  exact ha.seq hr er br fun k H1 μ1 h1 hr1 er1 p1 br1 => br1.pure hr1 rfl
def mAndV (ma mb : ME) : ME := fun env h => (ma env h).bind fun d h1 => match truD d h1 with
  | some true => mb env h1
  | some false => .ok d h1
  | none => .err
def mOrV (ma mb : ME) : ME := fun env h => (ma env h).bind fun d h1 => match truD d h1 with
  | some true => .ok d h1
  | some false => mb env h1
  | none => .err
def mNotV (ma : ME) : ME := fun env h => (ma env h).bind fun d h1 => match truD d h1 with
  | some b => .ok (.bl (!b)) h1
  | none => .err
theorem ie_one {op : BoolOp} (ha : ImplE X a ma) : ImplE X (.BoolOp op [a] pos) ma := fun env h σ H μ Q hr er br => mxE.of (pe_one peX) (ha env h σ H μ Q hr er br)
theorem ie_and (ha : ImplE X a ma) (hb : ImplE X (.BoolOp .And (b :: rest) pos) mb) : ImplE X (.BoolOp .And (a :: b :: rest) pos) (mAndV ma mb) := by
  intro env h σ H μ Q hr er br
  refine mxE.of (pe_andT peX peX) ?_
  refine ha.seq hr er br fun v H1 d μ1 h1 hr1 er1 p1 r1 br1 => ?_
  split at br1
  · rename_i q
    refine ⟨true, truD_of hr1 r1 q, ?_⟩
    rw [if_pos rfl]
    exact hb env h1 σ H1 μ1 Q hr1 er1 br1
  · rename_i q
    refine ⟨false, truD_of hr1 r1 q, ?_⟩
    rw [if_neg (by decide)]
    exact br1.pure hr1 r1
  · exact False.elim br1
theorem ie_or (ha : ImplE X a ma) (hb : ImplE X (.BoolOp .Or (b :: rest) pos) mb) : ImplE X (.BoolOp .Or (a :: b :: rest) pos) (mOrV ma mb) := by
  intro env h σ H μ Q hr er br
  refine mxE.of (pe_orT peX peX) ?_
  refine ha.seq hr er br fun v H1 d μ1 h1 hr1 er1 p1 r1 br1 => ?_
  split at br1
  · rename_i q
    refine ⟨true, truD_of hr1 r1 q, ?_⟩
    rw [if_pos rfl]
    exact br1.pure hr1 r1
  · rename_i q
    refine ⟨false, truD_of hr1 r1 q, ?_⟩
    rw [if_neg (by decide)]
    exact hb env h1 σ H1 μ1 Q hr1 er1 br1
  · exact False.elim br1
theorem ie_not (ha : ImplE X a ma) : ImplE X (.UnaryOp .Not a pos) (mNotV ma) := by
  intro env h σ H μ Q hr er br
  refine mxE.of (pe_notT peX) ?_
  refine ha.seq hr er br fun v H1 d μ1 h1 hr1 er1 p1 r1 br1 => ?_
  split at br1
  · rename_i k q
    exact ⟨k, truD_of hr1 r1 q, br1.pure hr1 (.bl _)⟩
  · exact False.elim br1
def mIf (tc : MT) (ma mb : ME) : ME := fun env h => (tc env h).bind fun k h1 => bif k then ma env h1 else mb env h1
theorem ie_if (hc : ImplT X c tc) (ha : ImplE X a ma) (hb : ImplE X b mb) : ImplE X (.IfExp c a b pos) (mIf tc ma mb) := by
  intro env h σ H μ Q hr er br
  refine mxE.of (pe_ifExp ptX peX peX) ?_
  refine hc.seq hr er br fun k H1 μ1 h1 hr1 er1 p1 br1 => ?_
  cases k with
  | true => rw [if_pos rfl]; exact ha env h1 σ H1 μ1 Q hr1 er1 br1
  | false => rw [if_neg (by decide)]; exact hb env h1 σ H1 μ1 Q hr1 er1 br1
end

theorem BR.later {P : Program} {w : World} {K : PySem.W.Frag} {H H1 : Hp} {μ μ1 : Nat → Addr} {h : MH} {α β : Type} {rp : Hp → (Nat → Addr) → Nat → α → β → Prop} {r : R α} {Q : β → Hp → Prop} (hr : HRep P w K H μ h) (p : Post P w K H μ h H1 μ1 h) (x : BR P w K rp H μ h r Q) :
    BR P w K rp H1 μ1 h r Q := R.all_mono x fun a h' q H' μ' b p2 e => q H' μ' b (p.trans hr p2) e
def isTup : D → Bool
  | .tup _ => true
  | _ => false
theorem len_sub {α : Type} : ∀ {l m : List α}, l.Nodup → (∀ x ∈ l, x ∈ m) → l.length ≤ m.length
  | [], _, _, _ => Nat.zero_le _
  | x :: l, m, hn, hs => by
    obtain ⟨n1, n2⟩ := List.nodup_cons.mp hn
    obtain ⟨a, b, e⟩ := List.append_of_mem (hs x List.mem_cons_self)
    subst e
    have q := len_sub (m := a ++ b) n2 fun y hy => by
      have z := hs y (List.mem_cons_of_mem _ hy)
      rcases List.mem_append.mp z with z | z
      · exact List.mem_append_left _ z
      · rcases List.mem_cons.mp z with z | z
        · exact absurd (z ▸ hy) n1
        · exact List.mem_append_right _ z
    rw [List.length_append] at q
    rw [List.length_cons, List.length_append, List.length_cons]
    omega
section
variable {X : Cx} {K : PySem.W.Frag} {H : Hp} {μ : Nat → Addr} {n : Nat}
theorem rows_of : ∀ {ds : List D} {vs : List V}, RepAll K H μ n ds vs → (∀ d ∈ ds, Pur d ∧ isTup d = true ∧ d.low 8 = true) → ∃ ks : Rw, vs = ks.map (fun p => V.ref p.1) ∧ EachIs (fun p d => KyD K H μ n d p) ks ds
  | [], _, r, _ => by cases r; exact ⟨[], rfl, .nil⟩
  | d :: ds, _, r, h => by
    cases r with
    | cons r1 r2 =>
      obtain ⟨ks, e, x⟩ := rows_of r2 fun y hy => h y (List.mem_cons_of_mem _ hy)
      obtain ⟨p1, p2, p3⟩ := h d List.mem_cons_self
      obtain ⟨k, ek, nk⟩ := pur_key p1
      cases r1 with
      | @tup a vs' ds' st ra => exact ⟨(a, k) :: ks, by rw [e]; rfl, .cons ⟨ek, .tup st ra, p3, nk⟩ x⟩
      | _ => simp [isTup] at p2
theorem pick_rows {ds : List D} {ks : Rw} (x : EachIs (fun p d => KyD K H μ n d p) ks ds) : ∀ {L : Rw}, (∀ p ∈ L, p ∈ ks) → ∃ es, EachIs (fun p d => KyD K H μ n d p) L es ∧ ∀ d ∈ es, d ∈ ds
  | [], _ => ⟨[], .nil, fun _ h => (nomatch h)⟩
  | p :: L, h => by
    obtain ⟨es, y, s⟩ := pick_rows x (L := L) fun q hq => h q (List.mem_cons_of_mem _ hq)
    obtain ⟨d, hd, k⟩ := x.left p (h p List.mem_cons_self)
    refine ⟨d :: es, .cons k y, fun e he => ?_⟩
    rcases List.mem_cons.mp he with z | z
    · rw [z]; exact hd
    · exact s e z
theorem rows_keys : ∀ {ds : List D} {ks : Rw}, EachIs (fun p d => KyD K H μ n d p) ks ds → ds.filterMap D.key = ks.map (·.2)
  | _, _, .nil => rfl
  | _, _, .cons r t => by rw [List.filterMap_cons, r.1, List.map_cons, rows_keys t]
theorem each_right {α β : Type} {R : α → β → Prop} : ∀ {as : List α} {bs : List β}, EachIs R as bs → ∀ b ∈ bs, ∃ a ∈ as, R a b
  | _, _, .nil, b, h => nomatch h
  | _, _, .cons r t, b, h => by
    rcases List.mem_cons.mp h with e | h
    · subst e; exact ⟨_, List.mem_cons_self, r⟩
    · obtain ⟨a, ha, q⟩ := each_right t b h
      exact ⟨a, List.mem_cons_of_mem _ ha, q⟩
def ssetF : F1 := fun d h => match lstD d h with
  | some ds => bif okS allS ds && (ds.all isTup && ds.all (D.low 8)) then bif Nat.ble (usort ds).length 76 then newM (.lst 0 (usort ds)) h else .err else .err
  | none => .err
theorem ie_sset {e : Expr} {m : ME} {p p2 pos pos2 : Pos} (hc : X.calm = true) (hu : X.A.units + 64 < cLine) (he : ImplE X e m) (hg : Gl X "sorted") (hm : X.mg "sorted" = none) (hg2 : Gl X "set") (hm2 : X.mg "set" = none)
    (h1 : starEach [.Call (.Name "set" p2) [e] [] pos2] X.env = [(false, eval (.Call (.Name "set" p2) [e] [] pos2) X.env)] := by rfl) (h2 : starEach [e] X.env = [(false, eval e X.env)] := by rfl) :
    ImplE X (.Call (.Name "sorted" p) [.Call (.Name "set" p2) [e] [] pos2] [] pos) (mUn ssetF m) := by
  intro env h σ H μ Q hr er br
  refine mxE.of (pe_callB (cr_sortG hc hu) hg hm PyProof.Rows.boot_sorted (pa_cons (pe_callTy (cr_setG hc hu) hg2 hm2 (by decide +kernel) (pa_cons peX pa_nil h2) (he := h2)) pa_nil h1) (he := h1)) ?_
  refine he.seq hr er br fun v H1 d μ1 h1 hr1 er1 p1 r1 br1 => ?_
  unfold ssetF at br1
  split at br1
  · rename_i ds q
    obtain ⟨lk, br1⟩ := bif_all br1
    obtain ⟨l76, br1⟩ := bif_all br1
    rw [Bool.and_eq_true, Bool.and_eq_true] at lk
    obtain ⟨P, F, hP⟩ := okS_fine lk.1
    obtain ⟨a, vs, rfl, sq, ra⟩ := lstD_of hr1 r1 q
    have good : ∀ d ∈ ds, Pur d ∧ isTup d = true ∧ d.low 8 = true := fun d hd => ⟨F.pur d (hP d hd), List.all_eq_true.mp lk.2.1 d hd, List.all_eq_true.mp lk.2.2 d hd⟩
    obtain ⟨ks, rfl, x⟩ := rows_of ra good
    obtain ⟨u1, u2, u3⟩ := usort_all F hP
    refine ⟨a, ks, ds, μ1, h1.n, rfl, sq, x, fun l nl hl => ?_, fun s0 L n0 sub cov ndL => ?_⟩
    · have hl2 : ∀ k ∈ l, k ∈ (usort ds).filterMap D.key := fun k hk => by
        have z := hl k hk
        rw [← rows_keys x] at z
        obtain ⟨d, hd, ed⟩ := List.mem_filterMap.mp z
        exact List.mem_filterMap.mpr ⟨d, (u3 d (hP d hd)).mpr hd, ed⟩
      exact Nat.le_trans (Nat.le_trans (len_sub nl hl2) (List.length_filterMap_le _ _)) (Nat.ble_eq.mp l76)
    · obtain ⟨es, y, s⟩ := pick_rows x sub
      have po : Post X.prog X.w X.K H1 μ1 h1 (upd H1 s0 (SetGO X.w s0 L)) μ1 h1 := Post.newH hr1 n0
      have y2 : EachIs (fun p d => KyD X.K (upd H1 s0 (SetGO X.w s0 L)) μ1 h1.n d p) L es := y.mono fun p d k => ⟨k.1, po.rp hr1 k.2.1, k.2.2.1, k.2.2.2⟩
      have kk := rows_keys y
      have nd : es.Nodup := by
        have z : (es.filterMap D.key).Nodup := by rw [kk]; exact ndL
        have go : ∀ l : List D, (l.filterMap D.key).Nodup → (∀ d ∈ l, ∃ k, d.key = some k) → l.Nodup := by
          intro l
          induction l with
          | nil => intro _ _; exact List.nodup_nil
          | cons d l ih =>
            intro hn hk
            obtain ⟨k, ek⟩ := hk d List.mem_cons_self
            rw [List.filterMap_cons, ek] at hn
            obtain ⟨n1, n2⟩ := List.nodup_cons.mp hn
            exact List.nodup_cons.mpr ⟨fun hd => n1 (List.mem_filterMap.mpr ⟨d, hd, ek⟩), ih n2 fun e he => hk e (List.mem_cons_of_mem _ he)⟩
        exact go es z fun d hd => (let ⟨p, _, k⟩ := each_right y d hd; ⟨_, k.1⟩)
      have mm : ∀ d, d ∈ es ↔ d ∈ ds := fun d => ⟨s d, fun hd => by
        obtain ⟨p, hp, k⟩ := each_right x d hd
        obtain ⟨p2, hp2, e2⟩ := List.mem_map.mp (cov p hp)
        obtain ⟨d2, hd2, k2⟩ := y.left p2 hp2
        have e3 : d2.key = some p.2 := by rw [k2.1, e2]
        rw [key_inj d d2 p.2 k.1 e3]
        exact hd2⟩
      refine ⟨s0, L, es, usort ds, P, μ1, h1.n, rfl, upd_same, y2, F, fun d hd => hP d (s d hd), fun ds' pm => ?_, fun q ws nq rw => ?_⟩
      · exact usort_eq F hP (pm.nodup_iff.mpr nd) fun d => pm.mem_iff.trans (mm d)
      · exact newLst po.rep rw nq (BR.later hr1 po br1)
  · exact False.elim br1
end

def rgD (a b : Int) : List D := (List.range (b - a).toNat).map fun k : Nat => D.int (a + ((k : Nat) : Int))
theorem rgD_rep {K : PySem.W.Frag} {H : Hp} {μ : Nat → Addr} {n : Nat} (a b : Int) : RepAll K H μ n (rgD a b) (rgV a b) := by
  unfold rgD rgV
  generalize List.range (b - a).toNat = l
  induction l with
  | nil => exact .nil
  | cons k l ih => rw [List.map_cons, List.map_cons]; exact .cons (.int _) ih
section
variable {X : Cx} {a b : Expr} {ma mb : ME} {p p2 pos pos2 : Pos}
def lrgF : F2 := fun x y h => match x, y with
  | .int i, .int j => bif decide (-100000 ≤ i) && decide (i ≤ 100000) && (decide (-100000 ≤ j) && decide (j ≤ 100000)) then newM (.lst 0 (rgD i j)) h else .err
  | _, _ => .err
theorem ie_lrg2 (hc : X.calm = true) (ha : ImplE X a ma) (hb : ImplE X b mb) (hg : Gl X "list") (hm : X.mg "list" = none) (hg2 : Gl X "range") (hm2 : X.mg "range" = none)
    (na : starEach [a, b] X.env = (false, eval a X.env) :: starEach [b] X.env := by rfl) (nb : starEach [b] X.env = (false, eval b X.env) :: starEach [] X.env := by rfl) (hp : (backTo pos2 (starEach [b] X.env)).any (·.1) = false := by rfl)
    (nc : starEach [.Call (.Name "range" p2) [a, b] [] pos2] X.env = (false, eval (.Call (.Name "range" p2) [a, b] [] pos2) X.env) :: starEach [] X.env := by rfl) :
    ImplE X (.Call (.Name "list" p) [.Call (.Name "range" p2) [a, b] [] pos2] [] pos) (mBin lrgF ma mb) := by
  intro env h σ H μ Q hr er br
  refine mxE.of (pe_listRg hc hg hm (prg_2 hg2 hm2 peX peX na nb hp) nc) ?_
  refine two (Q' := _) ha hb hr er br fun v u H2 x y μ2 h2 hr2 er2 _ rx ry br2 => ?_
  unfold lrgF at br2
  split at br2
  · obtain ⟨lk, br2⟩ := bif_all br2
    rw [Bool.and_eq_true, Bool.and_eq_true, Bool.and_eq_true] at lk
    have l1 := of_decide_eq_true lk.1.1
    have l2 := of_decide_eq_true lk.1.2
    have l3 := of_decide_eq_true lk.2.1
    have l4 := of_decide_eq_true lk.2.2
    cases rx; cases ry
    refine ⟨_, _, rfl, rfl, ⟨by omega, by omega, by omega, by omega, by omega⟩, fun l nl => newLst hr2 (rgD_rep _ _) nl br2⟩
  · exact False.elim br2
end
end Mi
set_option Elab.async false
set_option linter.all false
set_option autoImplicit false
set_option maxHeartbeats 1600000
namespace Mi
open PySem PySem.Spec PyProof.Rows L2 Mset
open PySem.W (EachIs)

inductive Ty where
  | non | bl | int | str | tup | lst
def Ty.name : Ty → String
  | .non => "NoneType"
  | .bl => "bool"
  | .int => "int"
  | .str => "str"
  | .tup => "tuple"
  | .lst => "list"
/-- a value of the type a is one of the type b -/
def Ty.is : Ty → Ty → Bool
  | .non, .non => true
  | .bl, .bl => true
  | .bl, .int => true
  | .int, .int => true
  | .str, .str => true
  | .tup, .tup => true
  | .lst, .lst => true
  | _, _ => false
def kt (t T : String) : Option Bool := if (Value.type t == Value.type T) = true then some true else if PySem.W.kitMeta T = true then (fastBuiltinMro t).map (·.contains (.type T)) else none
theorem kt_eq (K : PySem.W.Frag) (t T : String) : PySem.W.kitOne K (.type t) (.type T) = kt t T := rfl
theorem kt_ty (a b : Ty) (hb : b ≠ .non) : kt a.name b.name = some (a.is b) := by
  cases b with
  | non => exact absurd rfl hb
  | _ => cases a <;> (with_unfolding_all decide +kernel)
def tyD (d : D) (h : MH) : Option Ty := match d with
  | .non => some .non
  | .bl _ => some .bl
  | .int _ => some .int
  | .str _ => some .str
  | .tup _ => some .tup
  | .ref i => match lstD (.ref i) h with
    | some _ => some .lst
    | none => none
theorem tyD_of {P : Program} {w : World} {K : PySem.W.Frag} {H : Hp} {μ : Nat → Addr} {h : MH} {d : D} {v : V} {t : Ty} (hr : HRep P w K H μ h) (r : Rep K H μ h.n d v) (e : tyD d h = some t) : TyX K H v (.type t.name) := by
  cases d with
  | non => cases e; cases r; exact .base .non
  | bl _ => cases e; cases r; exact .base (.bl _)
  | int _ => cases e; cases r; exact .base (.int _)
  | str _ => cases e; cases r; exact .base (.str _)
  | tup ds =>
    cases e
    cases r with
    | tup st ra =>
      rcases st with ⟨o, e, _⟩ | ⟨o, its, n, e, c, _⟩
      · exact .fTuple e
      · exact .kTuple e c
  | ref i =>
    unfold tyD at e
    simp only at e
    cases q : lstD (.ref i) h with
    | none => rw [q] at e; cases e
    | some ds =>
      rw [q] at e
      cases e
      obtain ⟨a, vs, rfl, sq, ra⟩ := lstD_of hr r q
      rcases sq with (e | ⟨o, e⟩) | ⟨o, its, n, e, c, _⟩
      · exact .base (.lst e)
      · exact .base (.frz e)
      · exact .kList e c
def isiF (Ts : List Ty) : F1 := fun d h => match tyD d h with
  | some t => .ok (.bl (Ts.any t.is)) h
  | none => .err
theorem kit_any (K : PySem.W.Frag) (t : Ty) : ∀ Ts : List Ty, (∀ b ∈ Ts, b ≠ .non) → PySem.W.kitAny K (.type t.name) (Ts.map fun b => Value.type b.name) = some (Ts.any t.is)
  | [], _ => rfl
  | b :: Ts, h => by
    rw [List.map_cons, PySem.W.kitAny, kt_eq, kt_ty t b (h b List.mem_cons_self), List.any_cons]
    cases t.is b with
    | true => rfl
    | false =>
      rw [Bool.false_or]
      exact kit_any K t Ts fun c hc => h c (List.mem_cons_of_mem _ hc)
section
variable {X : Cx} {e : Expr} {m : ME} {p p2 p3 p4 pos pos2 : Pos}
theorem ie_isi {T : Str} (b : Ty) (he : ImplE X e m) (hg : Gl X "isinstance") (hm : X.mg "isinstance" = none) (hgT : Gl X T) (hmT : X.mg T = none) (hvT : bootBuiltins T = some (.type b.name)) (hb : b ≠ .non := by intro h; cases h) (hn : T ≠ "__name__" := by decide) (hdb : (T == ("__debug__" : Str)) = false := by decide)
    (h1 : starEach [e, .Name T p2] X.env = [(false, eval e X.env), (false, eval (.Name T p2) X.env)] := by rfl) (h2 : starEach [.Name T p2] X.env = [(false, eval (.Name T p2) X.env)] := by rfl) :
    ImplE X (.Call (.Name "isinstance" p) [e, .Name T p2] [] pos) (mUn (isiF [b]) m) := by
  intro env h σ H μ Q hr er br
  refine mxE.of (pe_callB call_isi hg hm (by decide +kernel) (pa_cons peX (pa_cons (pe_bltn (v := .ty b.name) hgT hmT hvT rfl hn hdb) pa_nil h2) h1) (he := h1) (hpl := by rw [h2]; rfl)) ?_
  refine he.seq hr er br fun v H1 d μ1 h1 hr1 er1 p1 r1 br1 => ?_
  unfold isiF at br1
  split at br1
  · rename_i t q
    refine ⟨v, .ty b.name, .type t.name, .type b.name, _, rfl, .ty _, tyD_of hr1 r1 q, (kt_eq _ _ _).trans (kt_ty t b hb), ?_⟩
    rw [List.any_cons, List.any_nil, Bool.or_false] at br1
    exact br1.pure hr1 (.bl _)
  · exact False.elim br1
theorem ie_isi2 {T U : Str} {cx} (b c : Ty) (he : ImplE X e m) (hg : Gl X "isinstance") (hm : X.mg "isinstance" = none) (hgT : Gl X T) (hmT : X.mg T = none) (hvT : bootBuiltins T = some (.type b.name)) (hgU : Gl X U) (hmU : X.mg U = none) (hvU : bootBuiltins U = some (.type c.name))
    (hb : b ≠ .non := by intro h; cases h) (hc : c ≠ .non := by intro h; cases h) (hn : T ≠ "__name__" := by decide) (hdb : (T == ("__debug__" : Str)) = false := by decide) (hnU : U ≠ "__name__" := by decide) (hdbU : (U == ("__debug__" : Str)) = false := by decide)
    (h1 : starEach [e, .Tuple [.Name T p2, .Name U p3] cx p4] X.env = [(false, eval e X.env), (false, eval (.Tuple [.Name T p2, .Name U p3] cx p4) X.env)] := by rfl) (h2 : starEach [.Tuple [.Name T p2, .Name U p3] cx p4] X.env = [(false, eval (.Tuple [.Name T p2, .Name U p3] cx p4) X.env)] := by rfl)
    (h3 : starEach [.Name T p2, .Name U p3] X.env = [(false, eval (.Name T p2) X.env), (false, eval (.Name U p3) X.env)] := by rfl) (h4 : starEach [.Name U p3] X.env = [(false, eval (.Name U p3) X.env)] := by rfl) :
    ImplE X (.Call (.Name "isinstance" p) [e, .Tuple [.Name T p2, .Name U p3] cx p4] [] pos) (mUn (isiF [b, c]) m) := by
  intro env h σ H μ Q hr er br
  refine mxE.of (pe_callB call_isiT hg hm (by decide +kernel) (pa_cons peX (pa_cons (pe_tup (pa_cons (pe_bltn (v := .ty b.name) hgT hmT hvT rfl hn hdb) (pa_cons (pe_bltn (v := .ty c.name) hgU hmU hvU rfl hnU hdbU) pa_nil h4) h3)) pa_nil h2) h1) (he := h1) (hpl := by rw [h2]; rfl)) ?_
  refine he.seq hr er br fun v H1 d μ1 h1 hr1 er1 p1 r1 br1 => ?_
  refine ⟨by show 2 ≤ sizeLine; decide, fun tp nt => ?_⟩
  unfold isiF at br1
  split at br1
  · rename_i t q
    have po : Post X.prog X.w X.K H1 μ1 h1 (upd H1 tp (.tup [.ty b.name, .ty c.name])) μ1 h1 := Post.newH hr1 nt
    refine ⟨v, tp, [.ty b.name, .ty c.name], .type t.name, [.type b.name, .type c.name], _, rfl, upd_same, .cons (.ty _) (.cons (.ty _) .nil), tyD_of po.rep (po.rp hr1 r1) q, kit_any X.K t [b, c] (fun y hy => ?_), ?_⟩
    · rcases List.mem_cons.mp hy with z | z
      · rw [z]; exact hb
      · rw [List.mem_singleton.mp z]; exact hc
    · exact (BR.later hr1 po br1).pure po.rep (.bl _)
  · exact False.elim br1
end

def minL : List D → Option D
  | [] => none
  | x :: xs => some (xs.foldl (fun a y => match D.cmp y a with | .lt => y | _ => a) x)
def minF : F1 := fun d h => match lstD d h with
  | some ds => bif okS allS ds && ds.all (D.low 40) then match minL ds with
    | some m => .ok m h
    | none => .err
    else .err
  | none => .err
section
variable {X : Cx}
theorem minL_dat {P : D → Prop} (F : Fine P) : ∀ (xs : List D) (x : D), P x → (∀ d ∈ xs, P d) → PySem.W.minD x.dat (xs.map D.dat) = (xs.foldl (fun a y => match D.cmp y a with | .lt => y | _ => a) x).dat ∧ (xs.foldl (fun a y => match D.cmp y a with | .lt => y | _ => a) x) ∈ x :: xs
  | [], x, _, _ => ⟨rfl, List.mem_cons_self⟩
  | y :: xs, x, hx, hs => by
    have hy := hs y List.mem_cons_self
    have q := F.lt hy hx
    have e : (if PySem.W.dataLt y.dat x.dat = true then y.dat else x.dat) = (match D.cmp y x with | .lt => y | _ => x).dat := by
      cases e : D.cmp y x with
      | lt => rw [if_pos (q.mpr e)]
      | _ => rw [if_neg (fun z => by rw [q.mp z] at e; cases e)]
    have hz : P (match D.cmp y x with | .lt => y | _ => x) := by split <;> assumption
    obtain ⟨a, b⟩ := minL_dat F xs _ hz fun d hd => hs d (List.mem_cons_of_mem _ hd)
    refine ⟨?_, ?_⟩
    · rw [List.foldl_cons, ← a]
      unfold PySem.W.minD
      rw [List.map_cons, List.foldl_cons, e]
    · rw [List.foldl_cons]
      rcases List.mem_cons.mp b with z | z
      · rw [z]
        split
        · exact List.mem_cons_of_mem _ List.mem_cons_self
        · exact List.mem_cons_self
      · exact List.mem_cons_of_mem _ (List.mem_cons_of_mem _ z)
theorem call_minD (hc : X.calm = true) (hu : X.A.units + 70 < cLine) : CallD X (.builtin "min") (fa1 minF) := by
  refine callD1 fun pins s σ H v u Q I ru rv d h μ hr r1 br => ?_
  unfold minF at br
  split at br
  · rename_i ds q
    obtain ⟨lk, br2⟩ := bif_all br
    rw [Bool.and_eq_true] at lk
    obtain ⟨P, F, hP⟩ := okS_fine lk.1
    obtain ⟨a, vs, rfl, sq, ra⟩ := lstD_of hr r1 q
    split at br2
    · rename_i m qm
      cases ru
      cases ds with
      | nil => cases qm
      | cons x xs =>
        simp only [minL, Option.some.injEq] at qm
        obtain ⟨its, rvs, pl, hz⟩ := I.list sq
        have hpx := hP x List.mem_cons_self
        have hpxs : ∀ d ∈ xs, P d := fun d hd => hP d (List.mem_cons_of_mem _ hd)
        obtain ⟨m1, m2⟩ := minL_dat F xs x hpx hpxs
        rw [qm] at m1 m2
        have dps : DpAll X.K H vs (x.dat :: xs.map D.dat) := by
          have z := rep_dps (X := X) (x :: xs) vs ra (flats_all fun d hd => pur_flat (F.pur d (hP d hd)))
          rw [D.dats, D.dats_map] at z
          exact z
        obtain ⟨as, rs⟩ := Dp.readsAll I _ _ _ dps rvs
        have dle := depthAll_le (n := 40) (ds := x.dat :: xs.map D.dat) fun e he => by
          have he' : e ∈ (x :: xs).map D.dat := he
          obtain ⟨d, hd, rfl⟩ := List.mem_map.mp he'
          exact low_dat 40 d (List.all_eq_true.mp lk.2 d hd)
        refine PySem.W.min_list_data (I.ok.hd hc) pl.isList (x := x.dat) (xs := xs.map D.dat) (by simpa using rs) ⟨fun a ha b hb => ?_, fun a ha => ?_⟩ (by omega) fun i w h' tk bs hv rd kp => ?_
        · have ha' : a ∈ (x :: xs).map D.dat := ha
          have hb' : b ∈ (x :: xs).map D.dat := hb
          obtain ⟨d, hd, rfl⟩ := List.mem_map.mp ha'
          obtain ⟨e, he, rfl⟩ := List.mem_map.mp hb'
          exact F.al d e (hP d hd) (hP e he)
        · have ha' : a ∈ (x :: xs).map D.dat := ha
          obtain ⟨d, hd, rfl⟩ := List.mem_map.mp ha'
          exact alike_nn (F.al d d (hP d hd) (hP d hd)) ⟨d, rfl, F.pur d (hP d hd)⟩
        · have hv' : its[i]? = some w := by simpa using hv
          have I1 : Inv X pins σ H { s with heap := h', toks := tk } := I.kept kp
          have hi : i < vs.length := by
            obtain ⟨hl, _⟩ := List.getElem?_eq_some_iff.mp hv'
            rw [rvs.length]
            exact hl
          obtain ⟨di, qd, rdi⟩ := ra.getV (List.getElem?_eq_getElem hi)
          obtain ⟨w2, e2, rw2⟩ := rvs.get (List.getElem?_eq_getElem hi)
          rw [hv'] at e2
          cases e2
          have hdi : di ∈ x :: xs := List.mem_of_getElem? qd
          obtain ⟨bs2, rd2⟩ := Dp.reads I1 _ _ _ (rep_dp (X := X) _ _ rdi (pur_flat (F.pur _ (hP _ hdi)))) rw2
          rw [m1] at rd
          have ed : m.dat = di.dat := (PySem.Reads.unique rd _ _ rd2).1
          have em : m = di := by
            have z := (cmp_spec m (F.pur m (hP m m2)) di (F.pur di (hP di hdi)) (F.al m di (hP m m2) (hP di hdi))).2.1
            refine z.mp ?_
            rw [ed]
            exact (cmp_spec di (F.pur di (hP di hdi)) di (F.pur di (hP di hdi)) (F.al di di (hP di hdi) (hP di hdi))).2.1.mpr rfl
          rw [em] at br2
          exact ⟨_, H, I1, rw2, br2.pure hr rdi⟩
    · exact False.elim br2
  · exact False.elim br
end
end Mi
set_option Elab.async false
set_option linter.all false
set_option autoImplicit false
set_option maxHeartbeats 1600000
namespace Mi
open PySem PySem.Spec PyProof.Rows L2 Mset
open PySem.W (EachIs)

inductive Itm where
  | one (d : D) | two (a b : D)
def RepI (K : PySem.W.Frag) (H : Hp) (μ : Nat → Addr) (n : Nat) : Itm → V → Prop
  | .one d, v => Rep K H μ n d v
  | .two a b, v => ∃ T x y, v = .ref T ∧ SqT K H T [x, y] ∧ Rep K H μ n a x ∧ Rep K H μ n b y
abbrev MJ := Itm → Ev → MH → R Ev
abbrev MJs := List D → Ev → MH → R Ev
def mxGs (X : Cx) (ts : List Expr) : TGs := fun vs σ H Q => ∀ (pins : List (Addr × Obj)) (s : Shared) (us : List Value), Inv X pins σ H s → Vals vs us → wpAny (model X.prog X.w) X.A (assignInOrder ((assignEach ts X.env).map (·.2)) us) (fun _ s' => ∃ σ' H', Inv X pins σ' H' s' ∧ Q σ' H') X.xe s
section
variable {X : Cx} {tg e : Expr} {ts : List Expr} {m : ME} {pos : Pos}
theorem pgsX : PGs X ts (mxGs X ts) := ⟨fun pins s _ _ _ us _ I r h => h pins s us I r⟩
theorem mxGs.of {t : TGs} (h : PGs X ts t) {vs : List V} {σ : L2.St} {H : Hp} {Q : L2.St → Hp → Prop} (x : t vs σ H Q) : mxGs X ts vs σ H Q := fun pins s us I r => h.run pins s σ H vs us Q I r x
theorem mxGs.mono {vs : List V} {σ : L2.St} {H : Hp} {Q Q' : L2.St → Hp → Prop} (x : mxGs X ts vs σ H Q) (m : ∀ σ' H', Q σ' H' → Q' σ' H') : mxGs X ts vs σ H Q' := fun pins s us I r =>
  wpAny_mono (x pins s us I r) (fun _ _ ⟨σ', H', a, q⟩ => ⟨σ', H', a, m _ _ q⟩) fun _ _ z => z
theorem mxG.mono {v : V} {σ : L2.St} {H : Hp} {Q Q' : L2.St → Hp → Prop} (x : mxG X tg v σ H Q) (m : ∀ σ' H', Q σ' H' → Q' σ' H') : mxG X tg v σ H Q' := fun pins s u I r =>
  wpAny_mono (x pins s u I r) (fun _ _ ⟨σ', H', a, q⟩ => ⟨σ', H', a, m _ _ q⟩) fun _ _ z => z
/-- the slots alone differ -/
def OnlyS (sl : List Nat) (σ σ' : L2.St) : Prop := ∀ vs : List Nat, (∀ i ∈ sl, i ∈ vs) → wipe σ' vs = wipe σ vs
theorem OnlyS.refl (sl : List Nat) (σ : L2.St) : OnlyS sl σ σ := fun _ _ => rfl
theorem OnlyS.trans {a b : List Nat} {σ σ1 σ2 : L2.St} (x : OnlyS a σ σ1) (y : OnlyS b σ1 σ2) : OnlyS (a ++ b) σ σ2 := fun vs h =>
  (y vs fun i hi => h i (List.mem_append_right _ hi)).trans (x vs fun i hi => h i (List.mem_append_left _ hi))
theorem wipe_set (σ : L2.St) (i : Nat) (x : Option V) : ∀ vs : List Nat, wipe (σ.set i x) vs = if i ∈ vs then wipe σ vs else (wipe σ vs).set i x
  | [] => by simp [wipe]
  | v :: vs => by
    rw [wipe, wipe_set σ i x vs, wipe]
    by_cases h1 : i = v
    · subst h1
      rw [if_pos List.mem_cons_self]
      split
      · rfl
      · rw [List.set_set]
    · by_cases h2 : i ∈ vs
      · rw [if_pos h2, if_pos (List.mem_cons_of_mem _ h2)]
      · rw [if_neg h2, if_neg (by simp [h1, h2]), List.set_comm _ _ h1]
theorem OnlyS.set (σ : L2.St) (i : Nat) (v : V) : OnlyS [i] σ (σ.set i (some v)) := fun vs h => by rw [wipe_set, if_pos (h i List.mem_cons_self)]
def ImplJ (X : Cx) (tg : Expr) (sl : List Nat) (g : MJ) : Prop := ∀ it v env h σ H μ Q, HRep X.prog X.w X.K H μ h → ERep X.K H μ h.n env σ → RepI X.K H μ h.n it v → BR X.prog X.w X.K (rpE X.K) H μ h (g it env h) Q → mxG X tg v σ H fun σ' H' => OnlyS sl σ σ' ∧ Q σ' H'
def ImplJs (X : Cx) (ts : List Expr) (sl : List Nat) (g : MJs) : Prop := ∀ ds vs env h σ H μ Q, HRep X.prog X.w X.K H μ h → ERep X.K H μ h.n env σ → RepAll X.K H μ h.n ds vs → BR X.prog X.w X.K (rpE X.K) H μ h (g ds env h) Q → mxGs X ts vs σ H fun σ' H' => OnlyS sl σ σ' ∧ Q σ' H'
def setE (env : Ev) (i : Nat) (d : D) : Ev := env.set i (some d)
def gN (i : Nat) : MJ := fun it env h => match it with
  | .one d => .ok (setE env i d) h
  | .two _ _ => .err
theorem ij_name {i : Nat} {x : Str} (hN : X.N.Nodup) (hi : X.N[i]? = some x) (hx : Loc X.env.scope x) (hf : X.fn x = true ∨ X.env.scope.names.lookup x = some .local := by first | exact .inl rfl | exact .inr rfl | assumption) : ImplJ X (.Name x pos) [i] (gN i) := by
  intro it v env h σ H μ Q hr er ri br
  cases it with
  | one d => exact mxG.of (pg_name hN hi hx hf) ⟨OnlyS.set σ i v, br.pure hr (er.set ri i)⟩
  | two a b => exact False.elim br
def gsNil : MJs := fun ds env h => match ds with
  | [] => .ok env h
  | _ => .err
def gsCons (g : MJ) (gs : MJs) : MJs := fun ds env h => match ds with
  | d :: ds => (g (.one d) env h).bind fun env1 h1 => gs ds env1 h1
  | [] => .err
theorem ijs_nil : ImplJs X [] [] gsNil := by
  intro ds vs env h σ H μ Q hr er ra br
  unfold gsNil at br
  split at br
  · cases ra
    exact mxGs.of pgs_nil ⟨rfl, OnlyS.refl _ _, br.pure hr er⟩
  · exact False.elim br
theorem ijs_cons {g : MJ} {gs : MJs} {sa sb : List Nat} (hg : ImplJ X tg sa g) (hgs : ImplJs X ts sb gs) (hs : (assignEach (tg :: ts) X.env).map (·.2) = assign tg X.env :: (assignEach ts X.env).map (·.2) := by rfl) : ImplJs X (tg :: ts) (sa ++ sb) (gsCons g gs) := by
  intro ds vs env h σ H μ Q hr er ra br
  unfold gsCons at br
  split at br
  · cases ra with
    | cons r1 r2 =>
      refine mxGs.of (pgs_cons pgX pgsX hs) ?_
      refine ⟨_, _, rfl, ?_⟩
      refine (hg (.one _) _ env h σ H μ _ hr er r1 (BR.bind (rp := rpE X.K) hr br)).mono fun σ1 H1 ⟨os, env1, μ1, h1, p, re, br1⟩ => ?_
      exact (hgs _ _ env1 h1 σ1 H1 μ1 Q p.rep re (p.rps hr r2) br1).mono fun σ2 H2 ⟨o2, q⟩ => ⟨os.trans o2, q⟩
  · exact False.elim br
def gTupM (k : Nat) (gs : MJs) : MJ := fun it env h => match it with
  | .one (.tup ds) => bif Nat.beq ds.length k then gs ds env h else .err
  | .two a b => bif Nat.beq k 2 then gs [a, b] env h else .err
  | _ => .err
theorem ij_tup {k1 k : Nat} {gs : MJs} {sl : List Nat} (hc : X.calm = true) (hgs : ImplJs X ts sl gs) (hn : (assignEach ts X.env).length = k := by rfl) (hst : (assignEach ts X.env).findIdx? (·.1) = none := by rfl) : ImplJ X (.Tuple ts k1 pos) sl (gTupM k gs) := by
  intro it v env h σ H μ Q hr er ri br
  unfold gTupM at br
  split at br
  · rename_i ds
    obtain ⟨lk, br⟩ := bif_all br
    cases ri with
    | @tup a vs _ st ra =>
      exact mxG.of (pg_tup hc pgsX hn hst) ⟨a, vs, rfl, st.sq, by rw [← ra.length]; exact Nat.eq_of_beq_eq_true lk, hgs ds vs env h σ H μ Q hr er ra br⟩
  · rename_i a b
    obtain ⟨lk, br⟩ := bif_all br
    obtain ⟨T, x, y, rfl, st, ra, rb⟩ := ri
    exact mxG.of (pg_tup hc pgsX hn hst) ⟨T, [x, y], rfl, st, (Nat.eq_of_beq_eq_true lk).symm, hgs [a, b] [x, y] env h σ H μ Q hr er (.cons ra (.cons rb .nil)) br⟩
  · exact False.elim br
end

def lock1 (h : MH) (i : Nat) : MH := match h.get i with
  | some (.lst k ds) => h.put i (.lst (k + 1) ds)
  | _ => h
def unlock1 (h : MH) (i : Nat) : MH := match h.get i with
  | some (.lst (k + 1) ds) => h.put i (.lst k ds)
  | _ => h
def lockA : List Nat → MH → MH
  | [], h => h
  | i :: l, h => lockA l (lock1 h i)
def unlockA : List Nat → MH → MH
  | [], h => h
  | i :: l, h => unlock1 (unlockA l h) i
section
variable {P : Program} {w : World} {K : PySem.W.Frag} {H H2 : Hp} {μ μ2 : Nat → Addr} {h h2 : MH} {i k : Nat} {ds : List D}
theorem lock_get (hr : HRep P w K H μ h) (hi : i < h.n) (hg : h.get i = some (.lst k ds)) (j : Nat) : (lock1 h i).get j = if j = i then some (.lst (k + 1) ds) else h.get j := by
  unfold lock1
  rw [hg]
  exact MH.get_put (Nat.lt_of_lt_of_le hi hr.cap)
theorem lock_n (h : MH) (i : Nat) : (lock1 h i).n = h.n := by unfold lock1; split <;> rfl
theorem unlock_n (h : MH) (i : Nat) : (unlock1 h i).n = h.n := by unfold unlock1; split <;> rfl
theorem HRep.lock (hr : HRep P w K H μ h) (hi : i < h.n) (hg : h.get i = some (.lst k ds)) : HRep P w K H μ (lock1 h i) := by
  have G := lock_get hr hi hg
  have N := lock_n h i
  refine ⟨fun j hj => ?_, fun a b oa ob ha hb ea eb ma mb q => ?_, by rw [N]; exact hr.cap⟩
  · rw [N] at hj ⊢
    rw [G]
    by_cases e : j = i
    · subst e
      rw [if_pos rfl]
      obtain ⟨o, e1, e2⟩ := hr.obj j hj
      rw [hg] at e1
      cases e1
      exact ⟨_, rfl, e2⟩
    · rw [if_neg e]
      exact hr.obj j hj
  · rw [N] at ha hb
    have back : ∀ j oj, (lock1 h i).get j = some oj → oj.mut = true → j < h.n → ∃ ok, h.get j = some ok ∧ ok.mut = true := fun j oj e m hj => by
      rw [G] at e
      by_cases z : j = i
      · subst z; exact ⟨_, hg, rfl⟩
      · rw [if_neg z] at e; exact ⟨oj, e, m⟩
    obtain ⟨o1, a1, b1⟩ := back a oa ea ma ha
    obtain ⟨o2, a2, b2⟩ := back b ob eb mb hb
    exact hr.inj a b o1 o2 ha hb a1 a2 b1 b2 q
/-- back behind the loop -/
theorem Post.unlock (hr : HRep P w K H μ h) (hi : i < h.n) (hg : h.get i = some (.lst k ds)) (p : Post P w K H μ (lock1 h i) H2 μ2 h2) : Post P w K H μ h H2 μ2 (unlock1 h2 i) := by
  have G := lock_get hr hi hg
  have N := lock_n h i
  have hi2 : i < h2.n := by have := p.le; rw [N] at this; omega
  have at2 : h2.get i = some (.lst (k + 1) ds) := p.lock i (.lst (k + 1) ds) (by rw [N]; exact hi) (by rw [G, if_pos rfl]) (Nat.succ_ne_zero k)
  have hc : i < MH.cap := Nat.lt_of_lt_of_le hi2 p.rep.cap
  have U : ∀ j, (unlock1 h2 i).get j = if j = i then some (.lst k ds) else h2.get j := fun j => by
    unfold unlock1
    rw [at2]
    exact MH.get_put hc
  have UN := unlock_n h2 i
  have own : ∀ a, Own h μ a → Own (lock1 h i) μ a := fun a ⟨j, o, hj, ho, hm, e⟩ => by
    by_cases z : j = i
    · subst z; exact ⟨j, _, by rw [N]; exact hj, by rw [G, if_pos rfl], rfl, e⟩
    · exact ⟨j, o, by rw [N]; exact hj, by rw [G, if_neg z]; exact ho, hm, e⟩
  have own' : ∀ a, Own (lock1 h i) μ a → Own h μ a := fun a ⟨j, o, hj, ho, hm, e⟩ => by
    rw [N] at hj
    by_cases z : j = i
    · subst z; exact ⟨j, _, hj, hg, rfl, e⟩
    · rw [G, if_neg z] at ho; exact ⟨j, o, hj, ho, hm, e⟩
  refine ⟨⟨fun j hj => ?_, fun a b oa ob ha hb ea eb ma mb q => ?_, by rw [UN]; exact p.rep.cap⟩, fun a o e n => p.ext a o e fun z => n (own' a z), fun j hj => p.mu j (by rw [N]; exact hj), by rw [UN, ← N]; exact p.le, fun j o a b e m => ?_, fun j o hj e l => ?_, fun j o hj e => ?_⟩
  · rw [UN] at hj ⊢
    rw [U]
    by_cases e : j = i
    · subst e
      rw [if_pos rfl]
      obtain ⟨o, e1, e2⟩ := p.rep.obj j hj
      rw [at2] at e1
      cases e1
      exact ⟨_, rfl, e2⟩
    · rw [if_neg e]
      exact p.rep.obj j hj
  · rw [UN] at ha hb
    have back : ∀ j oj, (unlock1 h2 i).get j = some oj → oj.mut = true → ∃ ok, h2.get j = some ok ∧ ok.mut = true := fun j oj e m => by
      rw [U] at e
      by_cases z : j = i
      · subst z; exact ⟨_, at2, rfl⟩
      · rw [if_neg z] at e; exact ⟨oj, e, m⟩
    obtain ⟨o1, a1, b1⟩ := back a oa ea ma
    obtain ⟨o2, a2, b2⟩ := back b ob eb mb
    exact p.rep.inj a b o1 o2 ha hb a1 a2 b1 b2 q
  · rw [UN] at b
    have z : j ≠ i := by omega
    rw [U, if_neg z] at e
    exact p.new j o (by rw [N]; exact a) b e m
  · rw [U]
    by_cases z : j = i
    · subst z
      rw [hg] at e
      rw [if_pos rfl]
      exact e
    · rw [if_neg z]
      exact p.lock j o (by rw [N]; exact hj) (by rw [G, if_neg z]; exact e) l
  · rw [U]
    by_cases z : j = i
    · subst z
      rw [hg] at e
      cases e
      rw [if_pos rfl]
      exact ⟨_, rfl, rfl⟩
    · rw [if_neg z]
      exact p.kind j o (by rw [N]; exact hj) (by rw [G, if_neg z]; exact e)
/-- lists stand at those places -/
def LksOk (h : MH) : List Nat → Prop := fun l => ∀ i ∈ l, i < h.n ∧ ∃ k ds, h.get i = some (.lst k ds)
theorem LksOk.lock (hr : HRep P w K H μ h) (hi : i < h.n) (hg : h.get i = some (.lst k ds)) {l : List Nat} (x : LksOk h l) : LksOk (lock1 h i) l := fun j hj => by
  obtain ⟨a, k', ds', e⟩ := x j hj
  rw [lock_n, lock_get hr hi hg]
  by_cases z : j = i
  · exact ⟨a, k + 1, ds, if_pos z⟩
  · exact ⟨a, k', ds', by rw [if_neg z]; exact e⟩
theorem HRep.lockA : ∀ {l : List Nat} {h : MH}, HRep P w K H μ h → LksOk h l → HRep P w K H μ (lockA l h)
  | [], _, hr, _ => hr
  | i :: l, h, hr, x => by
    obtain ⟨a, k, ds, e⟩ := x i List.mem_cons_self
    exact HRep.lockA (l := l) (hr.lock a e) (LksOk.lock hr a e fun j hj => x j (List.mem_cons_of_mem _ hj))
theorem lockA_n : ∀ (l : List Nat) (h : MH), (lockA l h).n = h.n
  | [], _ => rfl
  | i :: l, h => (lockA_n l (lock1 h i)).trans (lock_n h i)
theorem unlockA_n : ∀ (l : List Nat) (h : MH), (unlockA l h).n = h.n
  | [], _ => rfl
  | i :: l, h => (unlock_n _ i).trans (unlockA_n l h)
theorem Post.unlockA : ∀ {l : List Nat} {h h2 : MH}, HRep P w K H μ h → LksOk h l → Post P w K H μ (lockA l h) H2 μ2 h2 → Post P w K H μ h H2 μ2 (unlockA l h2)
  | [], _, _, _, _, p => p
  | i :: l, h, h2, hr, x, p => by
    obtain ⟨a, k, ds, e⟩ := x i List.mem_cons_self
    exact Post.unlock hr a e (Post.unlockA (l := l) (hr.lock a e) (LksOk.lock hr a e fun j hj => x j (List.mem_cons_of_mem _ hj)) p)
end

structure WalkM (P : Program) (w : World) (K : PySem.W.Frag) (J : It) (its : List Itm) (ok : Hp → (Nat → Addr) → MH → Prop) : Prop where
  stay : ∀ {H : Hp} {μ : Nat → Addr} {h : MH} {H' : Hp} {μ' : Nat → Addr} {h' : MH}, HRep P w K H μ h → ok H μ h → Post P w K H μ h H' μ' h' → ok H' μ' h'
  goes : ∀ {i : Nat} {H : Hp} {μ : Nat → Addr} {h : MH}, i < its.length → HRep P w K H μ h → ok H μ h → J.go i H
  stops : ∀ {H : Hp} {μ : Nat → Addr} {h : MH}, HRep P w K H μ h → ok H μ h → J.stop its.length H
  yields : ∀ {i : Nat} {H : Hp} {x : V} {H' : Hp} {μ : Nat → Addr} {h : MH} {it : Itm}, HRep P w K H μ h → ok H μ h → its[i]? = some it → J.yld i H x H' → Post P w K H μ h H' μ h ∧ RepI K H' μ h.n it x
abbrev MI := Ev → MH → R (List Itm × List Nat)
def mxI (X : Cx) (tg iter : Expr) : TI := fun σ H R => ∀ (pins : List (Addr × Obj)) (s : Shared), Inv X pins σ H s → wpAny (model X.prog X.w) X.A (eval iter X.env) (fun v s1 => wpAny (model X.prog X.w) X.A (pyIter v) (PIE X pins σ tg R) X.xe s1) X.xe s
theorem piX {X : Cx} {tg iter : Expr} : PI X tg iter (mxI X tg iter) := ⟨fun pins s _ _ _ I h => h pins s I⟩
theorem mxI.of {X : Cx} {tg iter : Expr} {t : TI} (h : PI X tg iter t) {σ : L2.St} {H : Hp} {R : It → Hp → Prop} (x : t σ H R) : mxI X tg iter σ H R := fun pins s I => h.run pins s σ H R I x
def IR (X : Cx) (H : Hp) (μ : Nat → Addr) (h : MH) (r : R (List Itm × List Nat)) (Rr : It → Hp → Prop) : Prop :=
  r.all fun p h1 => ∀ H1 μ1 J ok, Post X.prog X.w X.K H μ h H1 μ1 h1 → LksOk h1 p.2 → WalkM X.prog X.w X.K J p.1 ok → ok H1 μ1 (lockA p.2 h1) → Rr J H1
def ImplI (X : Cx) (tg iter : Expr) (mi : MI) : Prop := ∀ env h σ H μ Rr, HRep X.prog X.w X.K H μ h → ERep X.K H μ h.n env σ → IR X H μ h (mi env h) Rr → mxI X tg iter σ H Rr

def stepK (k : Ev → MH → R Fl) : Fl → MH → R Fl
  | .nx e, h => k e h
  | .ct e, h => k e h
  | .bk e, h => .ok (.nx e) h
  | .rt d, h => .ok (.rt d) h
def loopM (g : MJ) (b : MS) : List Itm → Ev → MH → R Fl
  | [], env, h => .ok (.nx env) h
  | it :: its, env, h => (g it env h).bind fun env1 h1 => (b env1 h1).bind (stepK (loopM g b its))
def mFor (mi : MI) (g : MJ) (b : MS) : MS := fun env h => (mi env h).bind fun p h1 => (loopM g b p.1 env (lockA p.2 h1)).bind fun fl h2 => .ok fl (unlockA p.2 h2)
section
variable {X : Cx} {tg iter : Expr} {body : List Stmt} {mi : MI} {g : MJ} {b : MS} {pos : Pos}
theorem mxSs.mono {sts : List Stmt} {σ : L2.St} {H : Hp} {E E' : Ends} (x : mxSs X sts E σ H) (nx : ∀ σ H, E.nx σ H → E'.nx σ H) (rt : ∀ v H, E.rt v H → E'.rt v H) (bk : ∀ σ H, E.bk σ H → E'.bk σ H) (ct : ∀ σ H, E.ct σ H → E'.ct σ H) : mxSs X sts E' σ H := fun pins s I =>
  wpAny_mono (x pins s I) (fun f s' q => by
    cases f with
    | next => obtain ⟨σ', H', a, q⟩ := q; exact ⟨σ', H', a, nx _ _ q⟩
    | brk => obtain ⟨σ', H', a, q⟩ := q; exact ⟨σ', H', a, bk _ _ q⟩
    | cont => obtain ⟨σ', H', a, q⟩ := q; exact ⟨σ', H', a, ct _ _ q⟩
    | ret u => obtain ⟨v, σ', H', a, r, q⟩ := q; exact ⟨v, σ', H', a, r, rt _ _ q⟩) fun _ _ z => z
theorem is_for (hc : X.calm = true) (hp : PassesOwn (model X.prog X.w) X.A X.env X.xe) {sl : List Nat} (hi : ImplI X tg iter mi) (hg : ImplJ X tg sl g) (hb : ImplSs X body b) (hs : ∀ x, foldedSetIterable iter X.env x = pure x := by intro _; rfl) : ImplS X (.For tg iter body [] pos) (mFor mi g b) := by
  intro env h σ H μ E hr er br
  refine mxS.of (ps_for hp hc piX pgX pssX hs) ?_
  refine hi env h σ H μ _ hr er (R.all_mono (R.all_bind.mp br) fun p h1 q H1 μ1 J ok po lk wk hok => ?_)
  have hL := po.rep.lockA lk
  have erL : ERep X.K H1 μ1 (lockA p.2 h1).n env σ := by rw [lockA_n]; exact po.er hr er
  -- what the loop's end is worth, from the locked state
  obtain ⟨F, hF⟩ : ∃ F : Fl → MH → Prop, F = fun fl h2 => ∀ H2 μ2 v, Post X.prog X.w X.K H1 μ1 (lockA p.2 h1) H2 μ2 h2 → rpF X.K H2 μ2 h2.n fl v → EQ E v H2 := ⟨_, rfl⟩
  have use : ∀ {fl h2}, F fl h2 → ∀ H2 μ2 v, Post X.prog X.w X.K H1 μ1 (lockA p.2 h1) H2 μ2 h2 → rpF X.K H2 μ2 h2.n fl v → EQ E v H2 := fun {fl h2} f => by rw [hF] at f; exact f
  have fin : (loopM g b p.1 env (lockA p.2 h1)).all F := by
    refine R.all_mono (R.all_bind.mp q) fun fl h2 q2 => ?_
    rw [hF]
    intro H2 μ2 v p2 r2
    have q3 : ∀ H' μ' v, Post X.prog X.w X.K H μ h H' μ' (unlockA p.2 h2) → rpF X.K H' μ' (unlockA p.2 h2).n fl v → EQ E v H' := q2
    exact q3 H2 μ2 v (po.trans hr (Post.unlockA po.rep lk p2)) (by rw [unlockA_n]; exact r2)
  refine ⟨fun i m σ3 H3 => ∃ env3 μ3 h3, m = p.1.length - i ∧ i ≤ p.1.length ∧ Post X.prog X.w X.K H1 μ1 (lockA p.2 h1) H3 μ3 h3 ∧ ERep X.K H3 μ3 h3.n env3 σ3 ∧
    (loopM g b (p.1.drop i) env3 h3).all F, ⟨_, env, μ1, lockA p.2 h1, rfl, Nat.zero_le _, Post.refl hL, erL, fin⟩, ?_⟩
  rintro i m σ3 H3 ⟨env3, μ3, h3, rfl, hi3, p3, er3, f3⟩
  have ok3 := wk.stay hL hok p3
  by_cases hlt : i < p.1.length
  · refine .inr ⟨wk.goes hlt p3.rep ok3, fun σ' H' => ∃ env4 μ4 h4, Post X.prog X.w X.K H1 μ1 (lockA p.2 h1) H' μ4 h4 ∧ ERep X.K H' μ4 h4.n env4 σ' ∧ (loopM g b (p.1.drop (i + 1)) env4 h4).all F,
      fun σ' H' ⟨env4, μ4, h4, a, b, c⟩ => ⟨p.1.length - (i + 1), by omega, env4, μ4, h4, rfl, hlt, a, b, c⟩, fun x H' y => ?_⟩
    have hit : p.1[i]? = some p.1[i] := List.getElem?_eq_getElem hlt
    obtain ⟨py, ry⟩ := wk.yields p3.rep ok3 hit y
    have p4 := p3.trans hL py
    have dr : p.1.drop i = p.1[i] :: p.1.drop (i + 1) := List.drop_eq_getElem_cons hlt
    rw [dr, loopM] at f3
    -- the target
    refine (hg p.1[i] x env3 h3 σ3 H' μ3 (fun σ5 H5 => ∃ env5 μ5 h5, Post X.prog X.w X.K H1 μ1 (lockA p.2 h1) H5 μ5 h5 ∧ ERep X.K H5 μ5 h5.n env5 σ5 ∧ ((b env5 h5).bind (stepK (loopM g b (p.1.drop (i + 1))))).all F) py.rep (py.er p3.rep er3) ry ?_).mono fun σ5 H5 q5 => ?_
    · exact R.all_mono (R.all_bind.mp f3) fun env5 h5 f5 H5 μ5 σ5 p5 e5 => ⟨env5, μ5, h5, p4.trans hL p5, e5, f5⟩
    · obtain ⟨_, env5, μ5, h5, p5, e5, f5⟩ := q5
      -- the body
      refine hb env5 h5 σ5 H5 μ5 _ p5.rep e5 (R.all_mono (R.all_bind.mp f5) fun fl h6 f6 H6 μ6 v6 p6 r6 => ?_)
      have p7 := p5.trans hL p6
      cases fl with
      | nx e => cases v6 <;> first | exact False.elim r6 | exact ⟨e, μ6, h6, p7, r6, f6⟩
      | ct e => cases v6 <;> first | exact False.elim r6 | exact ⟨e, μ6, h6, p7, r6, f6⟩
      | bk e =>
        cases v6 with
        | bk σ6 => exact use f6 H6 μ6 (.nx σ6) p7 r6
        | _ => exact False.elim r6
      | rt d =>
        cases v6 with
        | rt v => exact use f6 H6 μ6 (.rt v) p7 r6
        | _ => exact False.elim r6
  · have e : i = p.1.length := by omega
    subst e
    refine .inl ⟨wk.stops p3.rep ok3, ?_⟩
    rw [List.drop_length, loopM] at f3
    exact use f3 H3 μ3 (.nx σ3) p3 er3
end

section
variable {P : Program} {w : World} {K : PySem.W.Frag} {H H1 : Hp} {μ μ1 : Nat → Addr} {h h1 : MH} {Dd : Addr} {acc acc' : List V}
theorem tupN_tweak (hD : H Dd = some (.lst acc)) : ∀ a us, TupN K H a us → TupN K (upd H Dd (.lst acc')) a us := by
  intro a us s
  rcases s with ⟨o, s, d⟩ | s
  · refine .inl ⟨o, ?_, d⟩
    rw [upd_ne (fun z => by subst z; rw [hD] at s; cases s)]
    exact s
  · exact .inr s
/-- the new list, not yet the small heap's, grows -/
theorem Post.tweak (p : Post P w K H1 μ1 h1 H μ h) (n1 : H1 Dd = none) (hD : H Dd = some (.lst acc)) (no : ¬ Own h μ Dd) : Post P w K H1 μ1 h1 (upd H Dd (.lst acc')) μ h := by
  have sq := tupN_tweak (K := K) (acc' := acc') hD
  have rps : ∀ ds vs, RepAll K H μ h.n ds vs → RepAll K (upd H Dd (.lst acc')) μ h.n ds vs := fun ds vs => RepAll.mono sq (fun _ _ => rfl) (Nat.le_refl _) ds vs
  have rp : ∀ d v, Rep K H μ h.n d v → Rep K (upd H Dd (.lst acc')) μ h.n d v := fun d v => Rep.mono sq (fun _ _ => rfl) (Nat.le_refl _) d v
  refine ⟨⟨fun i hi => ?_, p.rep.inj, p.rep.cap⟩, fun a o e n => ?_, p.mu, p.le, p.new, p.lock, p.kind⟩
  · obtain ⟨o, e1, e2⟩ := p.rep.obj i hi
    refine ⟨o, e1, ?_⟩
    have ne : o.mut = true → μ i ≠ Dd := fun m z => no ⟨i, o, hi, e1, m, z⟩
    cases o with
    | lst lk ds => obtain ⟨us, e3, e4⟩ := e2; exact ⟨us, by rw [upd_ne (ne rfl)]; exact e3, rps _ _ e4⟩
    | frz ds =>
      obtain ⟨us, e3, e4⟩ := e2
      refine ⟨us, ?_, rps _ _ e4⟩
      rcases e3 with ⟨o, e3⟩ | e3
      · refine .inl ⟨o, ?_⟩
        rw [upd_ne (fun z => by rw [z, hD] at e3; cases e3)]
        exact e3
      · exact .inr e3
    | dct lk kvs =>
      obtain ⟨xs, e3, e4⟩ := e2
      exact ⟨xs, by rw [upd_ne (ne rfl)]; exact e3, Paired.mapP e4 fun q x k => ⟨k.key, k.dep, rp _ _ k.kr, let ⟨v, r1, r2⟩ := k.vr; ⟨v, r1, rp _ _ r2⟩⟩⟩
    | box m => obtain ⟨i1, i2, i3, e3, e5⟩ := e2; exact ⟨i1, i2, i3, by rw [upd_ne (ne rfl)]; exact e3, e5⟩
  · rw [upd_ne (ne_of_none e n1)]
    exact p.ext a o e n
/-- the new list becomes the small heap's -/
theorem Post.adopt {ds : List D} (p : Post P w K H1 μ1 h1 H μ h) (n1 : H1 Dd = none) (hD : H Dd = some (.lst acc)) (no : ¬ Own h μ Dd) (ra : RepAll K H μ h.n ds acc) (hc : h.n < MH.cap) :
    Post P w K H1 μ1 h1 H (muN μ h.n Dd) (h.new (.lst 0 ds)) := by
  have mu : ∀ i, i < h.n → muN μ h.n Dd i = μ i := fun i hi => if_neg (Nat.ne_of_lt hi)
  have rps : ∀ ds vs, RepAll K H μ h.n ds vs → RepAll K H (muN μ h.n Dd) (h.n + 1) ds vs := fun ds vs => RepAll.mono (fun _ _ s => s) mu (Nat.le_succ _) ds vs
  have rp : ∀ d v, Rep K H μ h.n d v → Rep K H (muN μ h.n Dd) (h.n + 1) d v := fun d v => Rep.mono (fun _ _ s => s) mu (Nat.le_succ _) d v
  have old : ∀ i, i < h.n → (h.new (.lst 0 ds)).get i = h.get i := fun i hi => by rw [MH.get_new hc, if_neg (Nat.ne_of_lt hi)]
  have last : (h.new (.lst 0 ds)).get h.n = some (.lst 0 ds) := by rw [MH.get_new hc, if_pos rfl]
  have nm : ∀ i oi, i < h.n → h.get i = some oi → oi.mut = true → μ i ≠ Dd := fun i oi hi e m z => no ⟨i, oi, hi, e, m, z⟩
  refine ⟨⟨fun i hi => ?_, fun i j oi oj hi hj ei ej mi mj q => ?_, by show h.n + 1 ≤ MH.cap; omega⟩, p.ext, fun i hi => (mu i (Nat.lt_of_lt_of_le hi p.le)).trans (p.mu i hi), Nat.le_trans p.le (Nat.le_succ _), fun i o x y e m => ?_, fun i o hi e l => (old i (Nat.lt_of_lt_of_le hi p.le)).trans (p.lock i o hi e l), fun i o hi e => ?_⟩
  · have hi : i < h.n + 1 := hi
    by_cases hz : i = h.n
    · subst hz
      exact ⟨_, last, acc, by rw [show muN μ h.n Dd h.n = Dd from if_pos rfl]; exact hD, rps _ _ ra⟩
    · have hlt : i < h.n := by omega
      obtain ⟨o1, e1, e2⟩ := p.rep.obj i hlt
      refine ⟨o1, (old i hlt).trans e1, ?_⟩
      rw [mu i hlt]
      cases o1 with
      | lst lk ds => obtain ⟨vs, e3, e4⟩ := e2; exact ⟨vs, e3, rps _ _ e4⟩
      | frz ds => obtain ⟨vs, e3, e4⟩ := e2; exact ⟨vs, e3, rps _ _ e4⟩
      | dct lk kvs => obtain ⟨xs, e3, e4⟩ := e2; exact ⟨xs, e3, Paired.mapP e4 fun q x k => ⟨k.key, k.dep, rp _ _ k.kr, let ⟨v, r1, r2⟩ := k.vr; ⟨v, r1, rp _ _ r2⟩⟩⟩
      | box m => exact e2
  · have hi : i < h.n + 1 := hi
    have hj : j < h.n + 1 := hj
    by_cases hi' : i = h.n
    · by_cases hj' : j = h.n
      · rw [hi', hj']
      · have hjl : j < h.n := by omega
        rw [mu j hjl, hi', show muN μ h.n Dd h.n = Dd from if_pos rfl] at q
        exact absurd q.symm (nm j oj hjl ((old j hjl).symm.trans ej) mj)
    · have hil : i < h.n := by omega
      by_cases hj' : j = h.n
      · rw [mu i hil, hj', show muN μ h.n Dd h.n = Dd from if_pos rfl] at q
        exact absurd q (nm i oi hil ((old i hil).symm.trans ei) mi)
      · have hjl : j < h.n := by omega
        rw [mu i hil, mu j hjl] at q
        exact p.rep.inj i j oi oj hil hjl ((old i hil).symm.trans ei) ((old j hjl).symm.trans ej) mi mj q
  · have y : i < h.n + 1 := y
    by_cases hz : i = h.n
    · rw [hz, show muN μ h.n Dd h.n = Dd from if_pos rfl]
      exact n1
    · have hlt : i < h.n := by omega
      rw [mu i hlt]
      exact p.new i o x hlt ((old i hlt).symm.trans e) m
  · obtain ⟨o', a, b⟩ := p.kind i o hi e
    exact ⟨o', (old i (Nat.lt_of_lt_of_le hi p.le)).trans a, b⟩
end
def wipeE (env : Ev) : List Nat → Ev
  | [] => env
  | v :: vs => (wipeE env vs).set v none
theorem wipeE_rep {K : PySem.W.Frag} {H : Hp} {μ : Nat → Addr} {n : Nat} {env : Ev} {σ : L2.St} (er : ERep K H μ n env σ) : ∀ vs : List Nat, ERep K H μ n (wipeE env vs) (wipe σ vs)
  | [] => er
  | v :: vs => by
    have x := wipeE_rep er vs
    rw [wipeE, wipe]
    refine ⟨by rw [List.length_set, List.length_set]; exact x.len, fun j d hj => ?_⟩
    by_cases e : v = j
    · subst e
      by_cases hl : v < (wipeE env vs).length
      · rw [List.getElem?_set_self hl] at hj; cases hj
      · rw [List.getElem?_eq_none (by rw [List.length_set]; omega)] at hj; cases hj
    · rw [List.getElem?_set_ne e] at hj ⊢
      exact x.at_ j d hj
def lcM (g : MJ) (mt : MT) (me : ME) (envW : Ev) : List Itm → MH → R (List D)
  | [], h => .ok [] h
  | it :: its, h => (g it envW h).bind fun env1 h1 => (mt env1 h1).bind fun b h2 => bif b then (me env1 h2).bind fun d h3 => (lcM g mt me envW its h3).bind fun ds h4 => .ok (d :: ds) h4 else lcM g mt me envW its h2
def mLc (mi : MI) (g : MJ) (mt : MT) (me : ME) (vs : List Nat) : ME := fun env h => (mi env h).bind fun p h1 => bif Nat.ble p.1.length 100000 then (lcM g mt me (wipeE env vs) p.1 (lockA p.2 h1)).bind fun ds h2 => newM (.lst 0 ds) (unlockA p.2 h2) else .err
theorem wipe_wipe (σ : L2.St) (vs : List Nat) : ∀ us : List Nat, (∀ i ∈ us, i ∈ vs) → wipe (wipe σ us) vs = wipe σ vs
  | [], _ => rfl
  | v :: us, h => by
    rw [wipe, wipe_set, if_pos (h v List.mem_cons_self)]
    exact wipe_wipe σ vs us fun i hi => h i (List.mem_cons_of_mem _ hi)
theorem unlock_own {h : MH} {μ : Nat → Addr} {a : Addr} {i : Nat} (hi : i < MH.cap) (x : Own (unlock1 h i) μ a) : Own h μ a := by
  obtain ⟨j, o, hj, ho, hm, e⟩ := x
  rw [unlock_n] at hj
  unfold unlock1 at ho
  split at ho
  · rename_i k ds q
    rw [MH.get_put hi] at ho
    by_cases z : j = i
    · subst z; exact ⟨j, _, hj, q, rfl, e⟩
    · rw [if_neg z] at ho; exact ⟨j, o, hj, ho, hm, e⟩
  · exact ⟨j, o, hj, ho, hm, e⟩
theorem unlockA_own {h : MH} {μ : Nat → Addr} {a : Addr} : ∀ {l : List Nat}, (∀ i ∈ l, i < MH.cap) → Own (unlockA l h) μ a → Own h μ a
  | [], _, x => x
  | i :: l, hl, x => unlockA_own (l := l) (fun j hj => hl j (List.mem_cons_of_mem _ hj)) (unlock_own (hl i List.mem_cons_self) x)
section
variable {X : Cx}
def mxTs (X : Cx) (ifs : List Expr) : TT := fun σ H Q => ∀ (pins : List (Addr × Obj)) (s : Shared), Inv X pins σ H s → wpAny (model X.prog X.w) X.A (forIn ifs true fun c r => if r = true then do let ok ← isTrue c X.env (eval c X.env); pure (ForInStep.yield ok) else pure (ForInStep.yield r)) (TP X pins σ Q) X.xe s
theorem ptsX {ifs : List Expr} : PTs X ifs (mxTs X ifs) := ⟨fun pins s _ _ _ I h => h pins s I⟩
theorem mxTs.of {ifs : List Expr} {t : TT} (h : PTs X ifs t) {σ : L2.St} {H : Hp} {Q : Bool → Hp → Prop} (x : t σ H Q) : mxTs X ifs σ H Q := fun pins s I => h.run pins s σ H Q I x
def ImplTs (X : Cx) (ifs : List Expr) (m : MT) : Prop := ∀ env h σ H μ Q, HRep X.prog X.w X.K H μ h → ERep X.K H μ h.n env σ → BR X.prog X.w X.K rpB H μ h (m env h) Q → mxTs X ifs σ H Q
def mYes : MT := fun _ h => .ok true h
theorem its_nil : ImplTs X [] mYes := fun env h σ H μ Q hr er br => mxTs.of pts_nil (br.pure hr rfl)
theorem its_one {c : Expr} {m : MT} (hc : ImplT X c m) : ImplTs X [c] m := fun env h σ H μ Q hr er br => mxTs.of (pts_one ptX) (hc env h σ H μ Q hr er br)
abbrev BX (X : Cx) (scope : Scope) (s : Shared) (H : Hp) (C : Addr) (cl : List (Str × Addr)) (fp : List Addr) : Cx := X.blk s H scope (compEnvC scope cl C X.env) fp
theorem lc_read {elt tg iter : Expr} {ifs : List Expr} {scope : Scope} {own : List (Str × Nat)} {sl : List Nat} {mi : MI} {g : MJ} {mt : MT} {me : ME} (hi : ImplI X tg iter mi)
    (hg : ∀ s H C cl fp, ImplJ (BX X scope s H C cl fp) tg sl g) (ht : ∀ s H C cl fp, ImplTs (BX X scope s H C cl fp) ifs mt) (he : ∀ s H C cl fp, ImplE (BX X scope s H C cl fp) elt me) (hsl : ∀ i ∈ sl, i ∈ own.map (·.2))
    {env : Ev} {h : MH} {σ : L2.St} {H : Hp} {μ : Nat → Addr} {Q : VK} (hr : HRep X.prog X.w X.K H μ h) (er : ERep X.K H μ h.n env σ) (br : BR X.prog X.w X.K (rpD X.K) H μ h (mLc mi g mt me (own.map (·.2)) env h) Q) :
    tLc (mxI X tg iter) (fun v σ H Q => ∀ s H0 C cl fp, mxG (BX X scope s H0 C cl fp) tg v σ H Q) (fun σ H Q => ∀ s H0 C cl fp, mxTs (BX X scope s H0 C cl fp) ifs σ H Q) (fun σ H Q => ∀ s H0 C cl fp, mxE (BX X scope s H0 C cl fp) elt σ H Q) (own.map (·.2)) σ H Q := by
  refine hi env h σ H μ _ hr er (R.all_mono (R.all_bind.mp br) fun p h1 q H1 μ1 J okW po lk wk hok Dd nD => ?_)
  have hL := po.rep.lockA lk
  have erL : ERep X.K H1 μ1 (lockA p.2 h1).n env σ := by rw [lockA_n]; exact po.er hr er
  have q : Nat.ble p.1.length 100000 = true ∧ ((lcM g mt me (wipeE env (own.map (·.2))) p.1 (lockA p.2 h1)).bind fun ds h2 => newM (.lst 0 ds) (unlockA p.2 h2)).all fun a h' => ∀ H' μ' b, Post X.prog X.w X.K H μ h H' μ' h' → rpD X.K H' μ' h'.n a b → Q b H' := by
    cases e : Nat.ble p.1.length 100000 with
    | true => rw [e] at q; exact ⟨rfl, q⟩
    | false => rw [e] at q; exact False.elim q
  obtain ⟨lp, q⟩ := q
  have lp := Nat.ble_eq.mp lp
  obtain ⟨F, hF⟩ : ∃ F : List D → MH → Prop, F = fun ds h2 => ∀ H2 μ2 acc, Post X.prog X.w X.K H1 μ1 (lockA p.2 h1) H2 μ2 h2 → H2 Dd = some (.lst acc) → ¬ Own h2 μ2 Dd → RepAll X.K H2 μ2 h2.n ds acc → Q (.ref Dd) H2 := ⟨_, rfl⟩
  have use : ∀ {ds h2}, F ds h2 → ∀ H2 μ2 acc, Post X.prog X.w X.K H1 μ1 (lockA p.2 h1) H2 μ2 h2 → H2 Dd = some (.lst acc) → ¬ Own h2 μ2 Dd → RepAll X.K H2 μ2 h2.n ds acc → Q (.ref Dd) H2 := fun {ds h2} f => by rw [hF] at f; exact f
  have fin : (lcM g mt me (wipeE env (own.map (·.2))) p.1 (lockA p.2 h1)).all F := by
    refine R.all_mono (R.all_bind.mp q) fun ds h2 q2 => ?_
    rw [hF]
    intro H2 μ2 acc p2 hD no ra
    obtain ⟨hcap, q3⟩ := newM_lt q2
    have pU := Post.unlockA po.rep lk p2
    have no' : ¬ Own (unlockA p.2 h2) μ2 Dd := fun x => no (unlockA_own (fun i hi => Nat.lt_of_lt_of_le (lk i hi).1 po.rep.cap) x)
    have pA := Post.adopt pU nD hD no' (by rw [unlockA_n]; exact ra) hcap
    have e : V.ref Dd = V.ref (muN μ2 (unlockA p.2 h2).n Dd (unlockA p.2 h2).n) := by rw [show muN μ2 (unlockA p.2 h2).n Dd (unlockA p.2 h2).n = Dd from if_pos rfl]
    rw [e]
    exact q3 H2 _ _ (po.trans hr pA) (.ref (Nat.lt_succ_self _))
  have p0 : Post X.prog X.w X.K H1 μ1 (lockA p.2 h1) (upd H1 Dd (.lst [])) μ1 (lockA p.2 h1) := Post.newH hL nD
  refine ⟨fun i m H3 => ∃ μ3 h3 acc ds, m = p.1.length - i ∧ i ≤ p.1.length ∧ Post X.prog X.w X.K H1 μ1 (lockA p.2 h1) H3 μ3 h3 ∧ H3 Dd = some (.lst acc) ∧ ¬ Own h3 μ3 Dd ∧ RepAll X.K H3 μ3 h3.n ds acc ∧ acc.length ≤ i ∧
    (lcM g mt me (wipeE env (own.map (·.2))) (p.1.drop i) h3).all (fun ds' h' => F (ds ++ ds') h'), ⟨_, μ1, lockA p.2 h1, [], [], rfl, Nat.zero_le _, p0, upd_same, own_of_none hL nD, .nil, Nat.le_refl _, fin⟩, ?_⟩
  rintro i m H3 ⟨μ3, h3, acc, ds, rfl, hi3, p3, d3, no3, ra3, la3, f3⟩
  have ok3 := wk.stay hL hok p3
  by_cases hlt : i < p.1.length
  · refine .inr ⟨wk.goes hlt p3.rep ok3, fun H' => ∃ μ4 h4 acc ds, Post X.prog X.w X.K H1 μ1 (lockA p.2 h1) H' μ4 h4 ∧ H' Dd = some (.lst acc) ∧ ¬ Own h4 μ4 Dd ∧ RepAll X.K H' μ4 h4.n ds acc ∧ acc.length ≤ i + 1 ∧
      (lcM g mt me (wipeE env (own.map (·.2))) (p.1.drop (i + 1)) h4).all (fun ds' h' => F (ds ++ ds') h'),
      fun H' ⟨μ4, h4, acc, ds, a, b, c, d, e, f⟩ => ⟨p.1.length - (i + 1), by omega, μ4, h4, acc, ds, rfl, hlt, a, b, c, d, e, f⟩, fun x H' y => ?_⟩
    have hit : p.1[i]? = some p.1[i] := List.getElem?_eq_getElem hlt
    obtain ⟨py, ry⟩ := wk.yields p3.rep ok3 hit y
    have p4 := p3.trans hL py
    have d4 := py.ext Dd _ d3 no3
    have no4 := py.own_new p3.rep d3 no3
    have ra4 := py.rps p3.rep ra3
    have dr : p.1.drop i = p.1[i] :: p.1.drop (i + 1) := List.drop_eq_getElem_cons hlt
    rw [dr, lcM] at f3
    intro s H0 C cl fp
    refine mxG.mono (hg s H0 C cl fp p.1[i] x (wipeE env (own.map (·.2))) h3 (wipe σ (own.map (·.2))) H' μ3 (fun σ5 H5 => ∃ env5 μ5 h5, Post X.prog X.w X.K H' μ3 h3 H5 μ5 h5 ∧ ERep X.K H5 μ5 h5.n env5 σ5 ∧
      ((mt env5 h5).bind fun b h2 => bif b then (me env5 h2).bind fun d h3 => (lcM g mt me (wipeE env (own.map (·.2))) (p.1.drop (i + 1)) h3).bind fun ds h4 => .ok (d :: ds) h4 else lcM g mt me (wipeE env (own.map (·.2))) (p.1.drop (i + 1)) h2).all (fun ds' h' => F (ds ++ ds') h'))
      py.rep (wipeE_rep (p4.er hL erL) _) ry ?_) fun σ5 H5 q5 => ?_
    · exact R.all_mono (R.all_bind.mp f3) fun env5 h5 f5 H5 μ5 σ5 p5 e5 => ⟨env5, μ5, h5, p5, e5, f5⟩
    · obtain ⟨os, env5, μ5, h5, p5, e5, f5⟩ := q5
      refine ⟨(os _ hsl).trans (wipe_wipe σ _ _ fun _ h => h), fun s H0 C cl fp => ?_⟩
      have p45 := p4.trans hL p5
      have d5 := p5.ext Dd _ d4 no4
      have no5 := p5.own_new p4.rep d4 no4
      have ra5 := p5.rps p4.rep ra4
      refine ht s H0 C cl fp env5 h5 σ5 H5 μ5 _ p5.rep e5 (R.all_mono (R.all_bind.mp f5) fun b h6 f6 H6 μ6 b' p6 eb => ?_)
      have eb : b = b' := eb
      subst eb
      have p46 := p45.trans hL p6
      have d6 := p6.ext Dd _ d5 no5
      have no6 := p6.own_new p5.rep d5 no5
      have ra6 := p6.rps p5.rep ra5
      cases b with
      | false =>
        refine iteF ?_
        exact ⟨μ6, h6, acc, ds, p46, d6, no6, ra6, Nat.le_succ_of_le la3, f6⟩
      | true =>
        refine iteT ?_
        intro s H0 C cl fp
        refine he s H0 C cl fp env5 h6 σ5 H6 μ6 _ p6.rep (p6.er p5.rep e5) (R.all_mono (R.all_bind.mp f6) fun d h7 f7 H7 μ7 yv p7 ryv => ?_)
        have p47 := p46.trans hL p7
        have d7 := p7.ext Dd _ d6 no6
        have no7 := p7.own_new p6.rep d6 no6
        have ra7 := p7.rps p6.rep ra6
        refine ⟨acc, d7, by rw [sizeLine_eq]; omega, μ7, h7, acc ++ [yv], ds ++ [d], p47.tweak nD d7 no7, upd_same, no7, RepAll.mono (tupN_tweak d7) (fun _ _ => rfl) (Nat.le_refl _) _ _ (ra7.append (.cons ryv .nil)), by rw [List.length_append, List.length_singleton]; omega, ?_⟩
        exact R.all_mono (R.all_bind.mp f7) fun ds' h' f8 => by
          have f8 : F (ds ++ d :: ds') h' := f8
          rw [List.append_assoc]
          exact f8
  · have e : i = p.1.length := by omega
    subst e
    refine .inl ⟨wk.stops p3.rep ok3, ?_⟩
    rw [List.drop_length, lcM] at f3
    have f3 : F (ds ++ []) h3 := f3
    rw [List.append_nil] at f3
    exact use f3 H3 μ3 acc p3 d3 no3 ra3
theorem ie_lc {elt tg iter : Expr} {ifs : List Expr} {scope : Scope} {own : List (Str × Nat)} {sl : List Nat} {pos : Pos} {mi : MI} {g : MJ} {mt : MT} {me : ME} (hc : X.calm = true) (hN : X.N.Nodup) (hi : ImplI X tg iter mi) (ok : BlkOk X.N X.env.scope scope own)
    (hg : ∀ s H C cl fp, ImplJ (BX X scope s H C cl fp) tg sl g) (ht : ∀ s H C cl fp, ImplTs (BX X scope s H C cl fp) ifs mt) (he : ∀ s H C cl fp, ImplE (BX X scope s H C cl fp) elt me) (hsl : ∀ i ∈ sl, i ∈ own.map (·.2)) (hs : ∀ x, foldedSetIterable iter X.env x = pure x := by intro _; rfl) :
    ImplE X (.ListComp elt [⟨tg, iter, ifs, 0⟩] scope pos) (mLc mi g mt me (own.map (·.2))) := by
  intro env h σ H μ Q hr er br
  exact mxE.of (pe_lc (g := fun v σ H Q => ∀ s H0 C cl fp, mxG (BX X scope s H0 C cl fp) tg v σ H Q) (tt := fun σ H Q => ∀ s H0 C cl fp, mxTs (BX X scope s H0 C cl fp) ifs σ H Q) (te := fun σ H Q => ∀ s H0 C cl fp, mxE (BX X scope s H0 C cl fp) elt σ H Q) hc hN piX ok
    (fun s H0 C cl fp => ⟨fun pins s1 σ H v u Q I r q => q s H0 C cl fp pins s1 u I r⟩) (fun s H0 C cl fp => ⟨fun pins s1 σ H Q I q => q s H0 C cl fp pins s1 I⟩) (fun s H0 C cl fp => ⟨fun pins s1 σ H Q I q => q s H0 C cl fp pins s1 I⟩) hs) (lc_read hi hg ht he hsl hr er br)
end
end Mi
set_option Elab.async false
set_option linter.all false
set_option autoImplicit false
set_option maxRecDepth 100000
set_option maxHeartbeats 1600000
namespace Mi
open PySem PySem.Spec PyProof.Rows L2 Mset
open PySem.W (EachIs)

section
open AutoSeq1 (wpAny_loadPart')
theorem newEnumT (l : Addr) (items : Array Value) (n : Nat) (dct : Option Addr) (sl : Array (Option Value)) :
    Meets (Builtin.«enumerate.__new__» ⟨[.type "enumerate", .ref l], []⟩) (fun _ R s => s.heap.get? l = some { cls := .type "tuple", dict := dct, data := .seq items n, slots := sl } ∧
      R (.ok (.ret (.ref (s.heap.push { cls := .type "tuple_iterator", data := .fields #[.ref l, .int 0 0] }).objs.size)))
        { s with heap := (s.heap.push { cls := .type "tuple_iterator", data := .fields #[.ref l, .int 0 0] }).push { cls := .type "enumerate", data := .fields #[.none, .bool false, .ref s.heap.objs.size, rawInt 0, .none, .none] } }) :=
  .of_wp fun prog w A R s h => by
    obtain ⟨hp, g, d, tk, os⟩ := s
    obtain ⟨hl, h⟩ := h
    have subE := sub_enumerate
    have hL : Heap.IsTuple (Shared.heap ⟨hp, g, d, tk, os⟩) l items := ⟨_, hl, rfl, n, rfl⟩
    wp_walk using wpAny_loadPart' hl
    refine wpAny_stack_any fun st => wpAny_pure ?_
    split
    · rename_i c _ _ _ _ _
      cases (c == Value.type "enumerate")
      · wp_walk using wpAny_loadPart' hl, wpAny_pyIter_tuple hL
        exact ⟨_, rfl, h⟩
      · wp_walk using wpAny_loadPart' hl, wpAny_pyIter_tuple hL
        exact ⟨_, rfl, h⟩
    · wp_walk using wpAny_loadPart' hl, wpAny_pyIter_tuple hL
      exact ⟨_, rfl, h⟩
end
section
variable {prog : Program} {w : World} {A : Around} {E : Value → Shared → Prop} {s : Shared}
theorem callEnumT {l : Addr} {items : Array Value} {Q : Value → Shared → Prop} (hL : s.heap.IsTuple l items)
    (h : ∀ h', IsEnum h' (s.heap.objs.size + 1) s.heap.objs.size 0 .none → h'.IsTupleIter s.heap.objs.size l 0 → h'.objs.size = s.heap.objs.size + 2 →
      (∀ b o, s.heap.get? b = some o → h'.get? b = some o) → Q (.ref (s.heap.objs.size + 1)) { s with heap := h' }) :
    wpAny (model prog w) A (call (.type "enumerate") [.ref l]) Q E s := by
  obtain ⟨⟨c, dct, dt, sl⟩, hl, hc, n, hd⟩ := hL
  simp only at hc hd
  subst hc hd
  refine callType_new F.called_enumerate (by decide) (F.typeCall_enumerate_1 _) (F.newCall_enumerate_1 _) (fun obj => F.args_object_init_2 obj _) F.entry_enumerate_new
    (newEnumT l items n dct sl) ⟨hl, ?_⟩
  have hz : (s.heap.push { cls := .type "tuple_iterator", data := .fields #[.ref l, .int 0 0] }).objs.size = s.heap.objs.size + 1 := Heap.size_push ..
  show _ ∧ _
  rw [hz]
  have he : IsEnum ((s.heap.push { cls := .type "tuple_iterator", data := .fields #[.ref l, .int 0 0] }).push
      { cls := .type "enumerate", data := .fields #[.none, .bool false, .ref s.heap.objs.size, rawInt 0, .none, .none] }) (s.heap.objs.size + 1) s.heap.objs.size 0 .none := by
    have q := Heap.get?_push_size (s.heap.push { cls := .type "tuple_iterator", data := .fields #[.ref l, .int 0 0] })
      (o := { cls := .type "enumerate", data := .fields #[.none, .bool false, .ref s.heap.objs.size, rawInt 0, .none, .none] }) rfl
    rw [hz] at q
    exact q
  exact ⟨⟨_, he, rfl⟩, h _ he ⟨_, Heap.get?_push_of_some _ (Heap.get?_push_size _ rfl), rfl, rfl⟩ (by rw [Heap.size_push, hz]) fun b o x => Heap.get?_push_of_some _ (Heap.get?_push_of_some _ x)⟩
end
/-- the tuple at a, each item in a new pair -/
def IteT (K : PySem.W.Frag) (a : Addr) : It :=
  ⟨fun i H => ∃ (xs : List V) (x : V), SqT K H a xs ∧ xs[i]? = some x, fun i H v H' => ∃ T x, v = .ref T ∧ H T = none ∧ H' = upd H T (.tup [.int (i : Nat), x]) ∧ ∀ xs, SqT K H a xs → xs[i]? = some x, fun i H => ∃ xs : List V, SqT K H a xs ∧ xs.length ≤ i⟩
theorem turnEnumT {P : Program} {w : World} {K : PySem.W.Frag} {elts : List Expr} {kk : Nat} {tpos : Pos} (a e it : Addr) :
    Turn P w K (.Tuple elts kk tpos) (IteT K a) [e, it] e (fun i h => (∃ old, IsEnum h e it ((i : Nat) : Int) old) ∧ h.IsTupleIter it a i ∧ e ≠ it) where
  mem := by simp
  obj := fun i h st b hb => by
    obtain ⟨⟨old, he⟩, ⟨o, ho, hc, hd⟩, _⟩ := st
    have e' : b = e ∨ b = it := by simpa using hb
    rcases e' with z | z
    · rw [z]; exact ⟨_, he, fun v q => nomatch q⟩
    · rw [z]; exact ⟨o, ho, fun v q => by rw [hd] at q; cases q⟩
  keep := fun i h h' st k => let ⟨⟨old, he⟩, hi, hne⟩ := st; ⟨⟨old, k e (by simp) _ he⟩, hi.at fun o q => k it (by simp) o q, hne⟩
  item := by
    intro X hP hw hK hc i pins s σ H E I hf st hg
    subst hP hw hK
    obtain ⟨⟨old, he⟩, hit, hne⟩ := st
    obtain ⟨xs, x, hq, hx⟩ := hg
    obtain ⟨its, rv, p, hz⟩ := I.tuple hq
    have pT : s.heap.IsTuple a its.toArray := p
    obtain ⟨u, hu, ru⟩ := rv.get hx
    have hel : e < s.heap.objs.size := Heap.lt_size he
    have hil : it < s.heap.objs.size := by obtain ⟨_, q, _⟩ := hit; exact Heap.lt_size q
    have hea : e ≠ a := fun z => by
      obtain ⟨o, e1, e2, _⟩ := p
      rw [← z, he] at e1
      cases e1
      have e3 : Value.type "enumerate" = Value.type "tuple" := e2
      exact absurd e3 (by decide)
    have hia : a ≠ it := fun z => by
      obtain ⟨o, e1, e2, _⟩ := p
      obtain ⟨o', e3, e4, _⟩ := hit
      rw [z, e3] at e1
      cases e1
      rw [e2] at e4
      exact absurd e4 (by decide)
    obtain ⟨hlt, _⟩ := List.getElem?_eq_some_iff.mp hu
    refine wpAny_pyNext_enum_itemD (Draws.tuple (A := X.A.in1) (I.ok.hd hc) it a hia its.toArray) he ⟨hit, pT⟩ (by simpa using hlt) hne (by simp [hne, hea]) fun y h' tk hPx ho hst' hT hsz hk => ?_
    have ey : y = u := by
      have z : its.toArray[i]? = some u := by simpa using hu
      rw [z] at hPx
      exact (Option.some.inj hPx).symm
    subst ey
    refine ⟨_, rfl, wpAny_letOwnedTupleGo_enum (s := { s with heap := h', toks := tk + 1 }) ho fun h'' he' sb => ?_⟩
    have hT2 : h''.get? s.heap.objs.size = some { cls := .type "tuple", data := .seq #[.int i tk, y] } := (sb.2 _ (Nat.ne_of_gt hel)).trans hT
    have new : ObjOk X.prog X.w (upd H s.heap.objs.size (.tup [.int (i : Nat), x])) h'' s.heap.objs.size (.tup [.int (i : Nat), x]) :=
      ⟨by show 2 ≤ sizeLine; decide, [.int i tk, y], .cons ⟨_, rfl⟩ (.cons ru .nil), ⟨_, hT2, rfl, _, rfl⟩⟩
    have I1 : Inv X pins σ (upd H s.heap.objs.size (.tup [.int (i : Nat), x])) { s with heap := h'', toks := tk + 1 } :=
      I.turnedNew (ch := [e, it]) (fun b ob hb q => (sb.2 b (fun z => hb (by simp [z]))).trans (hk b ob (fun z => hb (by simp [z])) (fun z => hb (by simp [z])) q)) hf (Nat.le_refl _) new
    refine ⟨.ref s.heap.objs.size, _, I1, rfl, ⟨_, x, rfl, I.hok.fresh (Nat.le_refl _), rfl, fun ys hy => by rw [I.tuple_inj hy hq]; exact hx⟩, ⟨⟨y, ?_⟩, hst'.1.at fun o q => (sb.2 it (Ne.symm hne)).trans q, hne⟩, fun b hb => ?_⟩
    · have e1 : ((i + 1 : Nat) : Int) = (i : Int) + 1 := by omega
      rw [e1]; exact he'
    · have hb' : b < s.heap.objs.size := by
        have e' : b = e ∨ b = it := by simpa using hb
        rcases e' with z | z
        · rw [z]; exact hel
        · rw [z]; exact hil
      rw [upd_ne (Nat.ne_of_lt hb')]
      exact (hf b hb).1
  done := by
    intro X hP hw hK hc i pins s σ H E I hf st hg
    subst hP hw hK
    obtain ⟨⟨old, he⟩, hit, hne⟩ := st
    obtain ⟨xs, hq, hx⟩ := hg
    obtain ⟨its, rv, p, hz⟩ := I.tuple hq
    obtain ⟨f0, f1, f2, f3, f4, f5⟩ := hf it (by simp)
    have hl := rv.length
    have hia : a ≠ it := fun z => by
      obtain ⟨o, e1, e2, _⟩ := p
      obtain ⟨o', e3, e4, _⟩ := hit
      rw [z, e3] at e1
      cases e1
      rw [e2] at e4
      exact absurd e4 (by decide)
    -- at the end or behind it
    have hT : s.TypeIs (.ref e) "enumerate" := ⟨_, he, rfl⟩
    unfold pyNext
    refine wpAny_bind (wpAny_attempt (wpAny_callSpecial?_slot (name := Str.ofString "__next__") hT F.slot_enumerate_next
      (wpAny_call_entry F.slot_enumerate_next hT F.entry_enumerate_next ?_ (F.args_enumerate_next_1 _))))
    show wpAny _ _ (field (.ref e) 2 >>= _) _ _ _
    refine wpAny_bind (wpAny_field he rfl (x := .ref it) rfl ?_)
    refine wpAny_bind (wpAny_nextOf_tuple_end (A := X.A.in1) (I.ok.hd hc) hit (show s.heap.IsTuple a its.toArray from p) (by simp; omega) fun h' x ext isx => ?_)
    obtain ⟨o, ho, hc'⟩ := isx
    refine wpAny_bind (wpAny_isInstance (T := "StopIteration") (b := true) ⟨o, ho, hc'⟩ isSubtype_stop ?_)
    exact wpAny_pure ⟨rfl, I.turned (t' := s.toks) (fun b o hb q => ext b o hb q) f0 f1 f3 f4 f5⟩
  self := fun A i s Q E st h => let ⟨⟨_, he⟩, _⟩ := st; wpAny_pyIter_enum he h

def oneI : List D → List Itm := List.map .one
def enumI : Nat → List D → List Itm
  | _, [] => []
  | i, d :: ds => .two (.int (i : Nat)) d :: enumI (i + 1) ds
def zipI : List D → List D → List Itm
  | x :: xs, y :: ys => .two x y :: zipI xs ys
  | _, _ => []
theorem enumI_len : ∀ (ds : List D) (i : Nat), (enumI i ds).length = ds.length
  | [], _ => rfl
  | d :: ds, i => congrArg Nat.succ (enumI_len ds (i + 1))
theorem enumI_at : ∀ (ds : List D) (k i : Nat) (it : Itm), (enumI k ds)[i]? = some it → ∃ d, ds[i]? = some d ∧ it = .two (.int ((k + i : Nat) : Int)) d
  | [], _, i, it, h => by simp [enumI] at h
  | d :: ds, k, 0, it, h => by
    simp only [enumI, List.getElem?_cons_zero, Option.some.injEq] at h
    exact ⟨d, rfl, h.symm⟩
  | d :: ds, k, i + 1, it, h => by
    simp only [enumI, List.getElem?_cons_succ] at h
    obtain ⟨d', a, b⟩ := enumI_at ds (k + 1) i it h
    refine ⟨d', by simpa using a, ?_⟩
    rw [b]
    congr 2
    omega
theorem zipI_len : ∀ (xs ys : List D), (zipI xs ys).length = min xs.length ys.length
  | [], ys => by simp [zipI]
  | x :: xs, [] => by simp [zipI]
  | x :: xs, y :: ys => by
    rw [zipI, List.length_cons, zipI_len xs ys, List.length_cons, List.length_cons]
    omega
theorem zipI_at : ∀ (xs ys : List D) (i : Nat) (it : Itm), (zipI xs ys)[i]? = some it → ∃ x y, xs[i]? = some x ∧ ys[i]? = some y ∧ it = .two x y
  | [], ys, i, it, h => by simp [zipI] at h
  | x :: xs, [], i, it, h => by simp [zipI] at h
  | x :: xs, y :: ys, 0, it, h => by
    simp only [zipI, List.getElem?_cons_zero, Option.some.injEq] at h
    exact ⟨x, y, rfl, rfl, h.symm⟩
  | x :: xs, y :: ys, i + 1, it, h => by
    simp only [zipI, List.getElem?_cons_succ] at h
    obtain ⟨a, b, c, d, e⟩ := zipI_at xs ys i it h
    exact ⟨a, b, by simpa using c, by simpa using d, e⟩

section
variable {P : Program} {w : World} {K : PySem.W.Frag}
/-- a tuple of those items stands at a -/
def okT (K : PySem.W.Frag) (a : Addr) (ds : List D) : Hp → (Nat → Addr) → MH → Prop := fun H μ h => ∃ vs, TupN K H a vs ∧ RepAll K H μ h.n ds vs
/-- a locked list of those items stands at a -/
def okLi (a : Addr) (j : Nat) (ds : List D) : Hp → (Nat → Addr) → MH → Prop := fun _ μ h => j < h.n ∧ μ j = a ∧ lstD (.ref j) h = some ds ∧ ∃ o, h.get j = some o ∧ o.lk ≠ 0
theorem okT_stay {a : Addr} {ds : List D} {H : Hp} {μ : Nat → Addr} {h : MH} {H' : Hp} {μ' : Nat → Addr} {h' : MH} (hr : HRep P w K H μ h) (x : okT K a ds H μ h) (p : Post P w K H μ h H' μ' h') : okT K a ds H' μ' h' := by
  obtain ⟨vs, a1, a2⟩ := x
  exact ⟨vs, p.sq hr _ _ a1, p.rps hr a2⟩
theorem okLi_stay {a : Addr} {j : Nat} {ds : List D} {H : Hp} {μ : Nat → Addr} {h : MH} {H' : Hp} {μ' : Nat → Addr} {h' : MH} (hr : HRep P w K H μ h) (x : okLi a j ds H μ h) (p : Post P w K H μ h H' μ' h') : okLi a j ds H' μ' h' := by
  obtain ⟨a1, a2, a3, o, a4, a5⟩ := x
  have e := p.lock j o a1 a4 a5
  refine ⟨Nat.lt_of_lt_of_le a1 p.le, (p.mu j a1).trans a2, ?_, o, e, a5⟩
  unfold lstD at a3 ⊢
  simp only [a4] at a3
  simp only [e]
  exact a3
theorem okLi_sq {a : Addr} {j : Nat} {ds : List D} {H : Hp} {μ : Nat → Addr} {h : MH} (hr : HRep P w K H μ h) (x : okLi a j ds H μ h) : ∃ vs, SqL K H a vs ∧ RepAll K H μ h.n ds vs := by
  obtain ⟨a1, a2, a3, _⟩ := x
  obtain ⟨b, vs, e, s, r⟩ := lstD_of hr (.ref a1) a3
  rw [← a2]
  cases e
  exact ⟨vs, s, r⟩
theorem rep_idx {H : Hp} {μ : Nat → Addr} {n i : Nat} {ds : List D} {vs : List V} (r : RepAll K H μ n ds vs) (hi : i < ds.length) : ∃ x, vs[i]? = some x ∧ Rep K H μ n ds[i] x := r.get (List.getElem?_eq_getElem hi)
theorem walkT {a : Addr} {ds : List D} : WalkM P w K (Itt K a) (oneI ds) (okT K a ds) where
  stay := okT_stay
  goes := fun {i} _ _ _ hi hr ok => by
    obtain ⟨vs, a1, a2⟩ := ok
    rw [oneI, List.length_map] at hi
    obtain ⟨x, e, _⟩ := rep_idx a2 hi
    exact ⟨vs, x, a1.sq, e⟩
  stops := fun hr ok => by
    obtain ⟨vs, a1, a2⟩ := ok
    exact ⟨vs, a1.sq, by rw [oneI, List.length_map, a2.length]; exact Nat.le_refl _⟩
  yields := fun {i} H x H' μ h it hr ok hit y => by
    obtain ⟨vs, a1, a2⟩ := ok
    obtain ⟨rfl, y⟩ := y
    have e := y vs a1.sq
    obtain ⟨d, q, r⟩ := a2.getV e
    rw [oneI, List.getElem?_map, q] at hit
    cases hit
    exact ⟨Post.refl hr, r⟩
theorem walkL {a : Addr} {j : Nat} {ds : List D} : WalkM P w K (Itl K a) (oneI ds) (okLi a j ds) where
  stay := okLi_stay
  goes := fun {i} _ _ _ hi hr ok => by
    obtain ⟨vs, a1, a2⟩ := okLi_sq hr ok
    rw [oneI, List.length_map] at hi
    obtain ⟨x, e, _⟩ := rep_idx a2 hi
    exact ⟨vs, x, a1, e⟩
  stops := fun hr ok => by
    obtain ⟨vs, a1, a2⟩ := okLi_sq hr ok
    exact ⟨vs, a1, by rw [oneI, List.length_map, a2.length]; exact Nat.le_refl _⟩
  yields := fun {i} H x H' μ h it hr ok hit y => by
    obtain ⟨vs, a1, a2⟩ := okLi_sq hr ok
    obtain ⟨rfl, y⟩ := y
    have e := y vs a1
    obtain ⟨d, q, r⟩ := a2.getV e
    rw [oneI, List.getElem?_map, q] at hit
    cases hit
    exact ⟨Post.refl hr, r⟩
/-- a pair at a new place -/
theorem pairAt {H : Hp} {μ : Nat → Addr} {h : MH} {T : Addr} {x y : V} {a b : D} (hr : HRep P w K H μ h) (n : H T = none) (ra : Rep K H μ h.n a x) (rb : Rep K H μ h.n b y) :
    Post P w K H μ h (upd H T (.tup [x, y])) μ h ∧ RepI K (upd H T (.tup [x, y])) μ h.n (.two a b) (.ref T) := by
  have p : Post P w K H μ h (upd H T (.tup [x, y])) μ h := Post.newH hr n
  exact ⟨p, T, x, y, rfl, SqT.of upd_same, p.rp hr ra, p.rp hr rb⟩
theorem walkEL {a : Addr} {j : Nat} {ds : List D} : WalkM P w K (Ite K a) (enumI 0 ds) (okLi a j ds) where
  stay := okLi_stay
  goes := fun {i} _ _ _ hi hr ok => by
    obtain ⟨vs, a1, a2⟩ := okLi_sq hr ok
    rw [enumI_len] at hi
    obtain ⟨x, e, _⟩ := rep_idx a2 hi
    exact ⟨vs, x, a1, e⟩
  stops := fun hr ok => by
    obtain ⟨vs, a1, a2⟩ := okLi_sq hr ok
    exact ⟨vs, a1, by rw [enumI_len, a2.length]; exact Nat.le_refl _⟩
  yields := fun {i} H x H' μ h it hr ok hit y => by
    obtain ⟨vs, a1, a2⟩ := okLi_sq hr ok
    obtain ⟨T, z, rfl, nT, rfl, y⟩ := y
    obtain ⟨d, q, e⟩ := enumI_at ds 0 i it hit
    subst e
    obtain ⟨z', q', r⟩ := a2.get q
    rw [y vs a1] at q'
    cases q'
    have e : ((0 + i : Nat) : Int) = (i : Nat) := by omega
    rw [e]
    exact pairAt hr nT (.int _) r
theorem walkET {a : Addr} {ds : List D} : WalkM P w K (IteT K a) (enumI 0 ds) (okT K a ds) where
  stay := okT_stay
  goes := fun {i} _ _ _ hi hr ok => by
    obtain ⟨vs, a1, a2⟩ := ok
    rw [enumI_len] at hi
    obtain ⟨x, e, _⟩ := rep_idx a2 hi
    exact ⟨vs, x, a1.sq, e⟩
  stops := fun hr ok => by
    obtain ⟨vs, a1, a2⟩ := ok
    exact ⟨vs, a1.sq, by rw [enumI_len, a2.length]; exact Nat.le_refl _⟩
  yields := fun {i} H x H' μ h it hr ok hit y => by
    obtain ⟨vs, a1, a2⟩ := ok
    obtain ⟨T, z, rfl, nT, rfl, y⟩ := y
    obtain ⟨d, q, e⟩ := enumI_at ds 0 i it hit
    subst e
    obtain ⟨z', q', r⟩ := a2.get q
    rw [y vs a1.sq] at q'
    cases q'
    have e : ((0 + i : Nat) : Int) = (i : Nat) := by omega
    rw [e]
    exact pairAt hr nT (.int _) r
theorem walkR {lo : Int} {n : Nat} {b : Int} (hb : (b - lo).toNat = n) : WalkM P w K (Itr lo n) (oneI (rgD lo b)) (fun _ _ _ => True) where
  stay := fun _ _ _ => trivial
  goes := fun {i} _ _ _ hi hr ok => by
    rw [oneI, List.length_map, rgD, List.length_map, List.length_range] at hi
    show i < n
    omega
  stops := fun hr ok => by
    show n ≤ _
    rw [oneI, List.length_map, rgD, List.length_map, List.length_range]
    omega
  yields := fun {i} H x H' μ h it hr ok hit y => by
    obtain ⟨rfl, rfl⟩ := y
    rw [oneI, List.getElem?_map, rgD, List.getElem?_map] at hit
    have hi : i < (b - lo).toNat := by
      cases q : (List.range (b - lo).toNat)[i]? with
      | none => rw [q] at hit; cases hit
      | some k =>
        obtain ⟨z, _⟩ := List.getElem?_eq_some_iff.mp q
        simpa using z
    rw [List.getElem?_range hi] at hit
    cases hit
    exact ⟨Post.refl hr, .int _⟩
theorem walkZL {a b : Addr} {j k : Nat} {ds es : List D} : WalkM P w K (Itz K a b) (zipI ds es) (fun H μ h => okLi a j ds H μ h ∧ okLi b k es H μ h) where
  stay := fun hr ok p => ⟨okLi_stay hr ok.1 p, okLi_stay hr ok.2 p⟩
  goes := fun {i} _ _ _ hi hr ok => by
    obtain ⟨vs, a1, a2⟩ := okLi_sq hr ok.1
    obtain ⟨ws, b1, b2⟩ := okLi_sq hr ok.2
    rw [zipI_len] at hi
    obtain ⟨x, e, _⟩ := rep_idx a2 (show i < ds.length by omega)
    obtain ⟨y, e', _⟩ := rep_idx b2 (show i < es.length by omega)
    exact ⟨vs, ws, x, y, a1, b1, e, e'⟩
  stops := fun hr ok => by
    obtain ⟨vs, a1, a2⟩ := okLi_sq hr ok.1
    obtain ⟨ws, b1, b2⟩ := okLi_sq hr ok.2
    refine ⟨vs, ws, a1, b1, ?_⟩
    rw [zipI_len, ← a2.length, ← b2.length]
    omega
  yields := fun {i} H x H' μ h it hr ok hit y => by
    obtain ⟨vs, a1, a2⟩ := okLi_sq hr ok.1
    obtain ⟨ws, b1, b2⟩ := okLi_sq hr ok.2
    obtain ⟨T, u, v, rfl, nT, rfl, y1, y2⟩ := y
    obtain ⟨d, e, q1, q2, rfl⟩ := zipI_at ds es i it hit
    obtain ⟨u', e1, r1⟩ := a2.get q1
    obtain ⟨v', e2, r2⟩ := b2.get q2
    rw [y1 vs a1] at e1
    rw [y2 ws b1] at e2
    cases e1
    cases e2
    exact pairAt hr nT r1 r2
theorem walkZT {a b : Addr} {ds es : List D} : WalkM P w K (RZ.ItzT K a b) (zipI ds es) (fun H μ h => okT K a ds H μ h ∧ okT K b es H μ h) where
  stay := fun hr ok p => ⟨okT_stay hr ok.1 p, okT_stay hr ok.2 p⟩
  goes := fun {i} _ _ _ hi hr ok => by
    obtain ⟨⟨vs, a1, a2⟩, ws, b1, b2⟩ := ok
    rw [zipI_len] at hi
    obtain ⟨x, e, _⟩ := rep_idx a2 (show i < ds.length by omega)
    obtain ⟨y, e', _⟩ := rep_idx b2 (show i < es.length by omega)
    exact ⟨vs, ws, x, y, a1.sq, b1.sq, e, e'⟩
  stops := fun hr ok => by
    obtain ⟨⟨vs, a1, a2⟩, ws, b1, b2⟩ := ok
    refine ⟨vs, ws, a1.sq, b1.sq, ?_⟩
    rw [zipI_len, ← a2.length, ← b2.length]
    omega
  yields := fun {i} H x H' μ h it hr ok hit y => by
    obtain ⟨⟨vs, a1, a2⟩, ws, b1, b2⟩ := ok
    obtain ⟨T, u, v, rfl, nT, rfl, y1, y2⟩ := y
    obtain ⟨d, e, q1, q2, rfl⟩ := zipI_at ds es i it hit
    obtain ⟨u', e1, r1⟩ := a2.get q1
    obtain ⟨v', e2, r2⟩ := b2.get q2
    rw [y1 vs a1.sq] at e1
    rw [y2 ws b1.sq] at e2
    cases e1
    cases e2
    exact pairAt hr nT r1 r2
end

/-- the items of a value, what is locked -/
def seqI (d : D) (h : MH) : Option (List D × List Nat) := match d with
  | .tup ds => some (ds, [])
  | .ref i => match h.get i with
    | some (.lst _ ds) => some (ds, [i])
    | some (.frz ds) => some (ds, [])
    | _ => none
  | _ => none
section
variable {P : Program} {w : World} {K : PySem.W.Frag} {H : Hp} {μ : Nat → Addr} {h : MH} {d : D} {v : V} {ds : List D} {lk : List Nat}
/-- a walked list, once it is locked -/
theorem okLi_of (hr : HRep P w K H μ h) {i : Nat} (hi : i < h.n) (e : seqI (.ref i) h = some (ds, lk)) : LksOk h lk ∧ okLi (μ i) i ds H μ (lockA lk h) := by
  obtain ⟨o, e1, e2⟩ := hr.obj i hi
  unfold seqI at e
  simp only [e1] at e
  cases o with
  | lst k es =>
    simp only [Option.some.injEq, Prod.mk.injEq] at e
    obtain ⟨rfl, rfl⟩ := e
    have g : (lock1 h i).get i = some (.lst (k + 1) es) := by rw [lock_get hr hi e1, if_pos rfl]
    refine ⟨fun j hj => by rw [List.mem_singleton.mp hj]; exact ⟨hi, k, es, e1⟩, by show i < (lock1 h i).n; rw [lock_n]; exact hi, rfl, ?_, _, g, Nat.succ_ne_zero k⟩
    show lstD (.ref i) (lock1 h i) = some es
    unfold lstD
    simp only [g]
  | frz es =>
    simp only [Option.some.injEq, Prod.mk.injEq] at e
    obtain ⟨rfl, rfl⟩ := e
    refine ⟨fun j hj => (nomatch hj), hi, rfl, ?_, _, e1, Nat.succ_ne_zero 0⟩
    show lstD (.ref i) h = some es
    unfold lstD
    simp only [e1]
  | _ => cases e
/-- other lists stay so when one more is locked -/
theorem okLi_lock {a : Addr} {j : Nat} {ds : List D} : ∀ {l : List Nat} {h : MH}, HRep P w K H μ h → LksOk h l → okLi a j ds H μ h → okLi a j ds H μ (lockA l h)
  | [], _, _, _, x => x
  | i :: l, h, hr, lk, x => by
    obtain ⟨hi, k, es, e⟩ := lk i List.mem_cons_self
    have hr1 := hr.lock hi e
    refine okLi_lock (l := l) hr1 (LksOk.lock hr hi e fun j hj => lk j (List.mem_cons_of_mem _ hj)) ?_
    obtain ⟨a1, a2, a3, o, a4, a5⟩ := x
    have G := lock_get hr hi e
    by_cases z : j = i
    · subst z
      rw [e] at a4
      cases a4
      have g : (lock1 h j).get j = some (.lst (k + 1) es) := by rw [G, if_pos rfl]
      refine ⟨by rw [lock_n]; exact a1, a2, ?_, _, g, Nat.succ_ne_zero k⟩
      unfold lstD at a3 ⊢
      simp only [e] at a3
      simp only [g]
      exact a3
    · have g : (lock1 h i).get j = some o := by rw [G, if_neg z]; exact a4
      refine ⟨by rw [lock_n]; exact a1, a2, ?_, o, g, a5⟩
      unfold lstD at a3 ⊢
      simp only [a4] at a3
      simp only [g]
      exact a3
end
section
variable {X : Cx} {tg e e2 : Expr} {elts : List Expr} {kk : Nat} {m : ME} {ma : MA} {p pos tpos : Pos}
def mSeqI (m : ME) : MI := fun env h => (m env h).bind fun d h1 => match seqI d h1 with
  | some (ds, lk) => .ok (oneI ds, lk) h1
  | none => .err
theorem ii_seq (he : ImplE X e m) : ImplI X tg e (mSeqI m) := by
  intro env h σ H μ Rr hr er br pins s I
  refine thn (he env h σ H μ (fun v H1 => ∃ d μ1 h1, Post X.prog X.w X.K H μ h H1 μ1 h1 ∧ Rep X.K H1 μ1 h1.n d v ∧ R.all (fun p h2 => ∀ H2 μ2 J ok, Post X.prog X.w X.K H μ h H2 μ2 h2 → LksOk h2 p.2 → WalkM X.prog X.w X.K J p.1 ok → ok H2 μ2 (lockA p.2 h2) → Rr J H2)
    (match seqI d h1 with | some (ds, lk) => .ok (oneI ds, lk) h1 | none => .err)) hr er ?_ pins s I) fun v s1 ⟨x, H1, I1, r1, d, μ1, h1, p1, rd, q⟩ => ?_
  · exact R.all_mono (R.all_bind.mp br) fun d h1 q H1 μ1 v p r => ⟨d, μ1, h1, p, r, q⟩
  · cases d with
    | tup ds =>
      cases rd with
      | @tup a vs _ st ra =>
        cases r1
        obtain ⟨its, rv, p, hz⟩ := I1.tuple st.sq
        refine wpAny_pyIter_tuple (show s1.heap.IsTuple a its.toArray from p) ?_
        refine ⟨s1.heap.objs.size, [s1.heap.objs.size], _, _, H1, rfl, I1.kept (t' := s1.toks) fun b o e => Heap.get?_push_of_some _ e, turn_tuple a _, ⟨_, Heap.get?_push_size _ rfl, rfl, rfl⟩, fun b hb => ?_, q H1 μ1 _ _ p1 (fun _ h => nomatch h) walkT ⟨vs, st, ra⟩⟩
        have e : b = s1.heap.objs.size := by simpa using hb
        subst e
        exact I1.fpOk (Nat.le_refl _) (I1.hok.fresh (Nat.le_refl _))
    | ref i =>
      cases q2 : seqI (.ref i) h1 with
      | none => rw [q2] at q; exact False.elim q
      | some dl =>
        obtain ⟨ds, lk⟩ := dl
        rw [q2] at q
        cases rd with
        | ref hi =>
          obtain ⟨lo, oo⟩ := okLi_of p1.rep hi q2
          have hL := p1.rep.lockA lo
          obtain ⟨vs, sq, ra⟩ := okLi_sq hL oo
          cases r1
          obtain ⟨its, rv, p, hz⟩ := I1.list sq
          refine wpAny_pyIter_list p.isList ?_
          refine ⟨s1.heap.objs.size, [s1.heap.objs.size], _, _, H1, rfl, I1.kept (t' := s1.toks) fun b o e => Heap.get?_push_of_some _ e, turn_list (μ1 i) _, ⟨_, Heap.get?_push_size _ rfl, rfl, rfl⟩, fun b hb => ?_, q H1 μ1 _ _ p1 lo walkL oo⟩
          have e : b = s1.heap.objs.size := by simpa using hb
          subst e
          exact I1.fpOk (Nat.le_refl _) (I1.hok.fresh (Nat.le_refl _))
    | _ => exact False.elim q
def mEnumI (m : ME) : MI := fun env h => (m env h).bind fun d h1 => match seqI d h1 with
  | some (ds, lk) => .ok (enumI 0 ds, lk) h1
  | none => .err
theorem ii_enum (hg : Gl X "enumerate") (hm : X.mg "enumerate" = none) (he : ImplE X e m) (hs : starEach [e] X.env = [(false, eval e X.env)] := by rfl) : ImplI X (.Tuple elts kk tpos) (.Call (.Name "enumerate" p) [e] [] pos) (mEnumI m) := by
  intro env h σ H μ Rr hr er br pins s I
  have ia : ImplA X [e] (mCons m mNil) := ia_cons he ia_nil hs
  refine Call_ (ld_blt I hg hm boot_enumerate (PyProof.Rows.callWith_type1 (thn (ia env h σ H μ (fun vs H1 => ∃ v d μ1 h1, vs = [v] ∧ Post X.prog X.w X.K H μ h H1 μ1 h1 ∧ Rep X.K H1 μ1 h1.n d v ∧ R.all (fun p h2 => ∀ H2 μ2 J ok, Post X.prog X.w X.K H μ h H2 μ2 h2 → LksOk h2 p.2 → WalkM X.prog X.w X.K J p.1 ok → ok H2 μ2 (lockA p.2 h2) → Rr J H2)
    (match seqI d h1 with | some (ds, lk) => .ok (enumI 0 ds, lk) h1 | none => .err)) hr er ?_ pos pins s I) fun us s1 ⟨vs, H1, I1, r1, v, d, μ1, h1, ev, p1, rd, q⟩ => ?_) hs rfl))
  · refine R.all_bind.mpr (R.all_mono (R.all_bind.mp br) fun d h1 q => ?_)
    show ∀ H1 μ1 vs, _ → _ → _
    intro H1 μ1 vs p r
    cases r with
    | cons r1 r2 => cases r2; exact ⟨_, d, μ1, h1, rfl, p, r1, q⟩
  · subst ev
    obtain ⟨u, rfl, ru⟩ := vals1 r1
    have fresh2 : ∀ b ∈ [s1.heap.objs.size + 1, s1.heap.objs.size], FpOk X pins H1 b := fun b hb => by
      have e' : b = s1.heap.objs.size + 1 ∨ b = s1.heap.objs.size := by simpa using hb
      have hle : s1.heap.objs.size ≤ b := by
        rcases e' with z | z
        · rw [z]; exact Nat.le_add_right _ _
        · rw [z]; exact Nat.le_refl _
      exact I1.fpOk hle (I1.hok.fresh hle)
    cases d with
    | tup ds =>
      cases rd with
      | @tup a vs _ st ra =>
        cases ru
        obtain ⟨its, rv, p, hz⟩ := I1.tuple st.sq
        refine callEnumT (show s1.heap.IsTuple a its.toArray from p) fun h' he hit hsz hk => wpAny_pyIter_enum he ?_
        exact ⟨s1.heap.objs.size + 1, [s1.heap.objs.size + 1, s1.heap.objs.size], _, _, H1, rfl, I1.kept (t' := s1.toks) hk, turnEnumT a (s1.heap.objs.size + 1) s1.heap.objs.size, ⟨⟨.none, he⟩, hit, Nat.succ_ne_self _⟩, fresh2, q H1 μ1 _ _ p1 (fun _ h => nomatch h) walkET ⟨vs, st, ra⟩⟩
    | ref i =>
      cases q2 : seqI (.ref i) h1 with
      | none => rw [q2] at q; exact False.elim q
      | some dl =>
        obtain ⟨ds, lk⟩ := dl
        rw [q2] at q
        cases rd with
        | ref hi =>
          obtain ⟨lo, oo⟩ := okLi_of p1.rep hi q2
          have hL := p1.rep.lockA lo
          obtain ⟨vs, sq, ra⟩ := okLi_sq hL oo
          cases ru
          obtain ⟨its, rv, p, hz⟩ := I1.list sq
          refine call_enumerate_list p.isList fun h' he hit hsz hk => wpAny_pyIter_enum he ?_
          exact ⟨s1.heap.objs.size + 1, [s1.heap.objs.size + 1, s1.heap.objs.size], _, _, H1, rfl, I1.kept (t' := s1.toks) hk, turn_enum (μ1 i) (s1.heap.objs.size + 1) s1.heap.objs.size, ⟨⟨.none, he⟩, hit, Nat.succ_ne_self _⟩, fresh2, q H1 μ1 _ _ p1 lo walkEL oo⟩
    | _ => exact False.elim q
/-- range(b), range(a, b) -/
def mRg1I (ma : MA) : MI := fun env h => (ma env h).bind fun ds h1 => match ds with
  | [.int b] => bif decide (-100000 ≤ b) && decide (b ≤ 100000) then .ok (oneI (rgD 0 b), []) h1 else .err
  | _ => .err
def mRg2I (ma : MA) : MI := fun env h => (ma env h).bind fun ds h1 => match ds with
  | [.int a, .int b] => bif (decide (-100000 ≤ a) && decide (a ≤ 100000)) && (decide (-100000 ≤ b) && decide (b ≤ 100000)) then .ok (oneI (rgD a b), []) h1 else .err
  | _ => .err
theorem ii_rg1 (hg : Gl X "range") (hm : X.mg "range" = none) (ha : ImplA X [e] ma) (hs : starEach [e] X.env = [(false, eval e X.env)] := by rfl) : ImplI X tg (.Call (.Name "range" p) [e] [] pos) (mRg1I ma) := by
  intro env h σ H μ Rr hr er br
  refine mxI.of (pi_range1 hg hm paX hs) ?_
  refine ha env h σ H μ _ hr er (R.all_mono (R.all_bind.mp br) fun ds h1 q H1 μ1 vs p1 ra => ?_)
  split at q
  · rename_i b
    cases z : decide (-100000 ≤ b) && decide (b ≤ 100000) with
    | false => rw [z] at q; exact False.elim q
    | true =>
      rw [z] at q
      rw [Bool.and_eq_true] at z
      have l1 := of_decide_eq_true z.1
      have l2 := of_decide_eq_true z.2
      cases ra with
      | cons r1 r2 =>
        cases r2
        cases r1
        exact ⟨b, rfl, by omega, by omega, q H1 μ1 _ _ p1 (fun _ h => nomatch h) (walkR (by rw [Int.sub_zero])) trivial⟩
  · exact False.elim q
theorem ii_rg2 (hg : Gl X "range") (hm : X.mg "range" = none) (ha : ImplA X [e, e2] ma) (hs : starEach [e, e2] X.env = [(false, eval e X.env), (false, eval e2 X.env)] := by rfl) (hs2 : starEach [e2] X.env = [(false, eval e2 X.env)] := by rfl) : ImplI X tg (.Call (.Name "range" p) [e, e2] [] pos) (mRg2I ma) := by
  intro env h σ H μ Rr hr er br
  refine mxI.of (pi_range2 hg hm paX hs hs2) ?_
  refine ha env h σ H μ _ hr er (R.all_mono (R.all_bind.mp br) fun ds h1 q H1 μ1 vs p1 ra => ?_)
  split at q
  · rename_i a b
    cases z : (decide (-100000 ≤ a) && decide (a ≤ 100000)) && (decide (-100000 ≤ b) && decide (b ≤ 100000)) with
    | false => rw [z] at q; exact False.elim q
    | true =>
      rw [z] at q
      rw [Bool.and_eq_true, Bool.and_eq_true, Bool.and_eq_true] at z
      have l1 := of_decide_eq_true z.1.1
      have l2 := of_decide_eq_true z.1.2
      have l3 := of_decide_eq_true z.2.1
      have l4 := of_decide_eq_true z.2.2
      cases ra with
      | cons r1 r2 =>
        cases r2 with
        | cons r2 r3 =>
          cases r3
          cases r1
          cases r2
          exact ⟨a, b, rfl, ⟨by omega, by omega, by omega, by omega⟩, q H1 μ1 _ _ p1 (fun _ h => nomatch h) (walkR rfl) trivial⟩
  · exact False.elim q
def mZipI (ma : MA) : MI := fun env h => (ma env h).bind fun ds h1 => match ds with
  | [.tup xs, .tup ys] => .ok (zipI xs ys, []) h1
  | [.ref i, .ref j] => match seqI (.ref i) h1, seqI (.ref j) h1 with
    | some (xs, l1), some (ys, l2) => .ok (zipI xs ys, l1 ++ l2) h1
    | _, _ => .err
  | _ => .err
theorem lockA_app : ∀ (a b : List Nat) (h : MH), lockA (a ++ b) h = lockA b (lockA a h)
  | [], _, _ => rfl
  | i :: a, b, h => lockA_app a b (lock1 h i)
theorem LksOk.lockA {P : Program} {w : World} {K : PySem.W.Frag} {H : Hp} {μ : Nat → Addr} : ∀ {l l2 : List Nat} {h : MH}, HRep P w K H μ h → LksOk h l → LksOk h l2 → LksOk (Mi.lockA l h) l2
  | [], _, _, _, _, x => x
  | i :: l, l2, h, hr, lk, x => by
    obtain ⟨hi, k, es, e⟩ := lk i List.mem_cons_self
    exact LksOk.lockA (l := l) (hr.lock hi e) (LksOk.lock hr hi e fun j hj => lk j (List.mem_cons_of_mem _ hj)) (LksOk.lock hr hi e x)
theorem ii_zip (hg : Gl X "zip") (hm : X.mg "zip" = none) (ha : ImplA X [e, e2] ma) (hs : starEach [e, e2] X.env = (false, eval e X.env) :: starEach [e2] X.env := by rfl) (hpl : (backTo pos (starEach [e2] X.env)).any (·.1) = false := by rfl) :
    ImplI X (.Tuple elts kk tpos) (.Call (.Name "zip" p) [e, e2] [] pos) (mZipI ma) := by
  intro env h σ H μ Rr hr er br
  refine mxI.of (RZ.pi_zipA hg hm paX hs hpl) ?_
  refine ha env h σ H μ _ hr er (R.all_mono (R.all_bind.mp br) fun ds h1 q H1 μ1 vs p1 ra => ?_)
  split at q
  · cases ra with
    | cons r1 r2 =>
      cases r2 with
      | cons r2 r3 =>
        cases r3
        cases r1 with
        | @tup a vs _ st ra =>
          cases r2 with
          | @tup b ws _ st2 ra2 => exact ⟨a, b, vs, ws, rfl, .inr ⟨st.sq, st2.sq, q H1 μ1 _ _ p1 (fun _ h => nomatch h) walkZT ⟨⟨vs, st, ra⟩, ws, st2, ra2⟩⟩⟩
  · rename_i i j
    split at q
    · rename_i xs l1 ys l2 e1 e2
      cases ra with
      | cons r1 r2 =>
        cases r2 with
        | cons r2 r3 =>
          cases r3
          cases r1 with
          | ref hi =>
            cases r2 with
            | ref hj =>
              obtain ⟨k1, o1⟩ := okLi_of p1.rep hi e1
              obtain ⟨k2, o2⟩ := okLi_of p1.rep hj e2
              have hL1 := p1.rep.lockA k1
              have hL2 := p1.rep.lockA k2
              have k2' := LksOk.lockA p1.rep k1 k2
              have hk : LksOk h1 (l1 ++ l2) := fun x hx => (List.mem_append.mp hx).elim (k1 x) (k2 x)
              obtain ⟨vs, s1, _⟩ := okLi_sq hL1 o1
              obtain ⟨ws, s2, _⟩ := okLi_sq hL2 o2
              have f1 : okLi (μ1 i) i xs H1 μ1 (lockA (l1 ++ l2) h1) := by rw [lockA_app]; exact okLi_lock hL1 k2' o1
              have f2 : okLi (μ1 j) j ys H1 μ1 (lockA (l1 ++ l2) h1) := by
                -- the second list, whichever was locked first
                have hr1 := p1.rep
                obtain ⟨o, e3, e4⟩ := hr1.obj j hj
                unfold seqI at e2
                simp only [e3] at e2
                cases o with
                | lst k es =>
                  simp only [Option.some.injEq, Prod.mk.injEq] at e2
                  obtain ⟨rfl, rfl⟩ := e2
                  rw [lockA_app]
                  -- j within the locked heap
                  have hjL : j < (lockA l1 h1).n := by rw [lockA_n]; exact hj
                  obtain ⟨hj2, k', es', e5⟩ := k2' j List.mem_cons_self
                  have same : es' = es := by
                    have go : ∀ (l : List Nat) (h : MH), HRep X.prog X.w X.K H1 μ1 h → LksOk h l → ∀ k es, h.get j = some (.lst k es) → ∃ k', (lockA l h).get j = some (.lst k' es) := by
                      intro l
                      induction l with
                      | nil => intro h _ _ k es e; exact ⟨k, e⟩
                      | cons i l ih =>
                        intro h hr lk k es e
                        obtain ⟨hi, k0, es0, e0⟩ := lk i List.mem_cons_self
                        have G := lock_get hr hi e0 j
                        have lk' := LksOk.lock hr hi e0 fun j hj => lk j (List.mem_cons_of_mem _ hj)
                        by_cases z : j = i
                        · subst z
                          rw [if_pos rfl] at G
                          rw [e] at e0
                          cases e0
                          exact ih (lock1 h j) (hr.lock hi e) lk' _ _ G
                        · rw [if_neg z] at G
                          exact ih (lock1 h i) (hr.lock hi e0) lk' k es (G.trans e)
                    obtain ⟨k'', e6⟩ := go l1 h1 hr1 k1 k es e3
                    rw [e5] at e6
                    cases e6
                    rfl
                  subst same
                  exact (okLi_of (ds := es') (lk := [j]) hL1 hjL (by unfold seqI; simp only [e5])).2
                | frz es =>
                  simp only [Option.some.injEq, Prod.mk.injEq] at e2
                  obtain ⟨rfl, rfl⟩ := e2
                  rw [List.append_nil]
                  exact okLi_lock hr1 k1 o2
                | _ => cases e2
              exact ⟨_, _, vs, ws, rfl, .inl ⟨s1, s2, q H1 μ1 _ _ p1 hk walkZL ⟨f1, f2⟩⟩⟩
    · exact False.elim q
  · exact False.elim q
end
end Mi
set_option Elab.async false
set_option linter.all false
set_option autoImplicit false
set_option maxHeartbeats 1600000
namespace Mi
open PySem PySem.Spec PyProof.Rows L2 Mset
open PySem.W (EachIs)

section
variable {X : Cx} {st : Stmt} {sts : List Stmt} {m m1 m2 : MS} {e c : Expr} {me : ME} {mt : MT} {pos : Pos}
theorem mxS.mono {σ : L2.St} {H : Hp} {E E' : Ends} (x : mxS X st E σ H) (nx : ∀ σ H, E.nx σ H → E'.nx σ H) (rt : ∀ v H, E.rt v H → E'.rt v H) (bk : ∀ σ H, E.bk σ H → E'.bk σ H) (ct : ∀ σ H, E.ct σ H → E'.ct σ H) : mxS X st E' σ H := fun pins s I =>
  wpAny_mono (x pins s I) (fun f s' q => by
    cases f with
    | next => obtain ⟨σ', H', a, q⟩ := q; exact ⟨σ', H', a, nx _ _ q⟩
    | brk => obtain ⟨σ', H', a, q⟩ := q; exact ⟨σ', H', a, bk _ _ q⟩
    | cont => obtain ⟨σ', H', a, q⟩ := q; exact ⟨σ', H', a, ct _ _ q⟩
    | ret u => obtain ⟨v, σ', H', a, r, q⟩ := q; exact ⟨v, σ', H', a, r, rt _ _ q⟩) fun _ _ z => z
def mNext : MS := fun env h => .ok (.nx env) h
def seqK (m2 : MS) : Fl → MH → R Fl
  | .nx e, h => m2 e h
  | fl, h => .ok fl h
def mSeq (m1 m2 : MS) : MS := fun env h => (m1 env h).bind (seqK m2)
theorem iss_nil : ImplSs X [] mNext := fun env h σ H μ E hr er br => mxSs.of pss_nil (show E.nx σ H from br H μ (.nx σ) (Post.refl hr) er)
theorem iss_one (h1 : ImplS X st m) : ImplSs X [st] m := fun env h σ H μ E hr er br => mxSs.of (pss_one psX) (h1 env h σ H μ E hr er br)
theorem iss_cons (h1 : ImplS X st m1) (h2 : ImplSs X sts m2) : ImplSs X (st :: sts) (mSeq m1 m2) := by
  intro env h σ H μ E hr er br
  refine mxSs.of (pss_cons psX pssX) ?_
  show mxS X st { E with nx := mxSs X sts E } σ H
  refine h1 env h σ H μ _ hr er (R.all_mono (R.all_bind.mp br) fun fl h1 q H1 μ1 v p r => ?_)
  cases fl with
  | nx env1 =>
    cases v with
    | nx σ1 => exact h2 env1 h1 σ1 H1 μ1 E p.rep r (R.all_mono q fun fl2 h2 q2 H2 μ2 v2 p2 r2 => q2 H2 μ2 v2 (p.trans hr p2) r2)
    | _ => exact False.elim r
  | rt d =>
    cases v with
    | rt u => exact q H1 μ1 (.rt u) p r
    | _ => exact False.elim r
  | bk env1 =>
    cases v with
    | bk u => exact q H1 μ1 (.bk u) p r
    | _ => exact False.elim r
  | ct env1 =>
    cases v with
    | ct u => exact q H1 μ1 (.ct u) p r
    | _ => exact False.elim r
def mErr : MS := fun _ _ => .err
/-- a statement that the mirror never reaches -/
theorem is_never : ImplS X st mErr := fun env h σ H μ E hr er br => False.elim br
theorem is_pass : ImplS X (.Pass pos) mNext := fun env h σ H μ E hr er br => mxS.of ps_pass (show E.nx σ H from br H μ (.nx σ) (Post.refl hr) er)
def mBrk : MS := fun env h => .ok (.bk env) h
def mCtn : MS := fun env h => .ok (.ct env) h
theorem is_break : ImplS X (.Break pos) mBrk := fun env h σ H μ E hr er br => mxS.of ps_break (show E.bk σ H from br H μ (.bk σ) (Post.refl hr) er)
theorem is_cont : ImplS X (.Continue pos) mCtn := fun env h σ H μ E hr er br => mxS.of ps_continue (show E.ct σ H from br H μ (.ct σ) (Post.refl hr) er)
def mExpr (me : ME) : MS := fun env h => (me env h).bind fun _ h1 => .ok (.nx env) h1
theorem is_expr (he : ImplE X e me) (hs : swapsWith e none pos.line X.env = pure false := by rfl) : ImplS X (.Expr e pos) (mExpr me) := by
  intro env h σ H μ E hr er br
  refine mxS.of (ps_expr peX hs) ?_
  exact he.seq hr er br fun v H1 d μ1 h1 hr1 er1 p1 r1 br1 => br1 H1 μ1 (.nx σ) (Post.refl hr1) er1
def mRet (me : ME) : MS := fun env h => (me env h).bind fun d h1 => .ok (.rt d) h1
theorem is_ret (he : ImplE X e me) : ImplS X (.Return (some e) pos) (mRet me) := by
  intro env h σ H μ E hr er br
  refine mxS.of (ps_ret peX) ?_
  exact he.seq hr er br fun v H1 d μ1 h1 hr1 er1 p1 r1 br1 => br1 H1 μ1 (.rt v) (Post.refl hr1) r1
def mIfS (mt : MT) (m1 m2 : MS) : MS := fun env h => (mt env h).bind fun k h1 => bif k then m1 env h1 else m2 env h1
theorem is_if {a b : List Stmt} (hc : ImplT X c mt) (ha : ImplSs X a m1) (hb : ImplSs X b m2) : ImplS X (.If c a b pos) (mIfS mt m1 m2) := by
  intro env h σ H μ E hr er br
  refine mxS.of (ps_if ptX pssX pssX) ?_
  refine hc.seq hr er br fun k H1 μ1 h1 hr1 er1 p1 br1 => ?_
  cases k with
  | true => exact iteT (ha env h1 σ H1 μ1 E hr1 er1 br1)
  | false => exact iteF (hb env h1 σ H1 μ1 E hr1 er1 br1)
def mAsg (me : ME) (g : MJ) : MS := fun env h => (me env h).bind fun d h1 => (g (.one d) env h1).bind fun env1 h2 => .ok (.nx env1) h2
theorem asg_br {K : PySem.W.Frag} {P : Program} {w : World} {H : Hp} {μ : Nat → Addr} {h : MH} {r : R Ev} {E : Ends} (br : BR P w K (rpF K) H μ h (r.bind fun env1 h2 => .ok (.nx env1) h2) (EQ E)) : BR P w K (rpE K) H μ h r E.nx :=
  R.all_mono (R.all_bind.mp br) fun env1 h2 q H2 μ2 σ2 p e => q H2 μ2 (.nx σ2) p e
theorem is_asg {tg : Expr} {sl : List Nat} {g : MJ} (he : ImplE X e me) (hg : ImplJ X tg sl g) (hs : swapsWithSole [tg] e pos.line X.env = pure false := by rfl) (hw : swappedStores [tg] e X.env = pure none := by rfl)
    (h1 : (assignEach [tg] X.env).map (·.2) = [assign tg X.env] := by rfl) : ImplS X (.Assign [tg] e pos) (mAsg me g) := by
  intro env h σ H μ E hr er br
  refine mxS.of (ps_asg peX pgX hs hw h1) ?_
  refine he.seq hr er br fun v H1 d μ1 h1 hr1 er1 p1 r1 br1 => ?_
  exact (hg (.one d) v env h1 σ H1 μ1 E.nx hr1 er1 r1 (asg_br br1)).mono fun _ _ q => q.2
def mSet (i : Nat) (me : ME) : MS := fun env h => (me env h).bind fun d h1 => .ok (.nx (setE env i d)) h1
theorem is_set {i : Nat} {x : Str} {pos' : Pos} (hN : X.N.Nodup) (hi : X.N[i]? = some x) (hx : Loc X.env.scope x) (he : ImplE X e me) (hs : swapsWith e (some (.Name x pos')) pos.line X.env = pure false := by rfl) (hf : X.fn x = true ∨ X.env.scope.names.lookup x = some .local := by first | exact .inl rfl | exact .inr rfl | assumption) :
    ImplS X (.Assign [.Name x pos'] e pos) (mSet i me) := by
  intro env h σ H μ E hr er br
  refine mxS.of (ps_set hN hi hx peX hs hf) ?_
  exact he.seq hr er br fun v H1 d μ1 h1 hr1 er1 p1 r1 br1 => br1 H1 μ1 (.nx _) (Post.refl hr1) (er1.set r1 i)
/-- name = [..], a comprehension -/
theorem is_setLc {i : Nat} {y : Str} {py : Pos} {elt tg iter : Expr} {ifs : List Expr} {scope : Scope} {own : List (Str × Nat)} {sl : List Nat} {pos spos : Pos} {mi : MI} {g : MJ} {mt : MT} {me : ME} (hc : X.calm = true) (hN : X.N.Nodup) (hy : X.N[i]? = some y) (hyl : X.env.scope.names.lookup y = some .local)
    (hsw : swapsWith (.ListComp elt [⟨tg, iter, ifs, 0⟩] scope pos) (some (.Name y py)) spos.line X.env = pure true) (hi : ImplI X tg iter mi) (ok : BlkOk X.N X.env.scope scope own)
    (hg : ∀ s H C cl fp, ImplJ (BX X scope s H C cl fp) tg sl g) (ht : ∀ s H C cl fp, ImplTs (BX X scope s H C cl fp) ifs mt) (he : ∀ s H C cl fp, ImplE (BX X scope s H C cl fp) elt me) (hsl : ∀ i ∈ sl, i ∈ own.map (·.2)) (hs : ∀ x, foldedSetIterable iter X.env x = pure x := by intro _; rfl) :
    ImplS X (.Assign [.Name y py] (.ListComp elt [⟨tg, iter, ifs, 0⟩] scope pos) spos) (mSet i (mLc mi g mt me (own.map (·.2)))) := by
  intro env h σ H μ E hr er br
  refine mxS.of (ps_setLc (g := fun v σ H Q => ∀ s H0 C cl fp, mxG (BX X scope s H0 C cl fp) tg v σ H Q) (tt := fun σ H Q => ∀ s H0 C cl fp, mxTs (BX X scope s H0 C cl fp) ifs σ H Q) (te := fun σ H Q => ∀ s H0 C cl fp, mxE (BX X scope s H0 C cl fp) elt σ H Q) hc hN hy hyl hsw piX ok
    (fun s H0 C cl fp => ⟨fun pins s1 σ H v u Q I r q => q s H0 C cl fp pins s1 u I r⟩) (fun s H0 C cl fp => ⟨fun pins s1 σ H Q I q => q s H0 C cl fp pins s1 I⟩) (fun s H0 C cl fp => ⟨fun pins s1 σ H Q I q => q s H0 C cl fp pins s1 I⟩) hs) ?_
  exact lc_read hi hg ht he hsl hr er (R.all_mono (R.all_bind.mp br) fun d h1 q H1 μ1 v p r => q H1 μ1 (.nx (σ.set i (some v))) p ((p.er hr er).set r i))
/-- a, b = x, y -/
def mPar (i j : Nat) (ma : MA) : MS := fun env h => (ma env h).bind fun ds h1 => match ds with
  | [a, b] => .ok (.nx (setE (setE env i a) j b)) h1
  | _ => .err
theorem is_par {i j : Nat} {x y : Str} {a b : Expr} {ma : MA} {px py pt : Pos} {kt k2 pt2} (hc : X.calm = true) (hN : X.N.Nodup) (hi : X.N[i]? = some x) (hj : X.N[j]? = some y) (hij : i ≠ j)
    (hx : X.env.scope.names.lookup x = some .local) (hy : X.env.scope.names.lookup y = some .local) (ha : ImplA X [a, b] ma)
    (hw : swappedStores [.Tuple [.Name x px, .Name y py] kt pt] (.Tuple [a, b] k2 pt2) X.env = pure (some [x, y]) := by rfl)
    (hs : swapsWithSole [.Tuple [.Name x px, .Name y py] kt pt] (.Tuple [a, b] k2 pt2) pos.line X.env = pure false := by rfl) :
    ImplS X (.Assign [.Tuple [.Name x px, .Name y py] kt pt] (.Tuple [a, b] k2 pt2) pos) (mPar i j ma) := by
  intro env h σ H μ E hr er br
  refine mxS.of (ps_par hc hN hi hj hij hx hy paX hw hs) ?_
  refine ha.seq hr er br fun vs H1 ds μ1 h1 hr1 er1 p1 r1 br1 => ?_
  split at br1
  · cases r1 with
    | cons r1 r2 =>
      cases r2 with
      | cons r2 r3 =>
        cases r3
        exact ⟨_, _, rfl, br1 H1 μ1 (.nx _) (Post.refl hr1) ((er1.set r1 i).set r2 j)⟩
  · exact False.elim br1
/-- at most that many turns -/
def whileM (mt : MT) (b : MS) : Nat → Ev → MH → R Fl
  | 0, _, _ => .err
  | n + 1, env, h => (mt env h).bind fun k h1 => bif k then (b env h1).bind (stepK (whileM mt b n)) else .ok (.nx env) h1
def mWhile (n : Nat) (mt : MT) (b : MS) : MS := whileM mt b n
theorem is_while {n : Nat} {body : List Stmt} {b : MS} (hp : PassesOwn (model X.prog X.w) X.A X.env X.xe) (hc : ImplT X c mt) (hb : ImplSs X body b) : ImplS X (.While c body [] pos) (mWhile n mt b) := by
  intro env h σ H μ E hr er br
  refine mxS.of (ps_while hp ptX pssX) ?_
  obtain ⟨F, hF⟩ : ∃ F : Fl → MH → Prop, F = fun fl h2 => ∀ H2 μ2 v, Post X.prog X.w X.K H μ h H2 μ2 h2 → rpF X.K H2 μ2 h2.n fl v → EQ E v H2 := ⟨_, rfl⟩
  have use : ∀ {fl h2}, F fl h2 → ∀ H2 μ2 v, Post X.prog X.w X.K H μ h H2 μ2 h2 → rpF X.K H2 μ2 h2.n fl v → EQ E v H2 := fun {fl h2} f => by rw [hF] at f; exact f
  have start : (whileM mt b n env h).all F := by rw [hF]; exact br
  refine ⟨fun m σ3 H3 => ∃ env3 μ3 h3, Post X.prog X.w X.K H μ h H3 μ3 h3 ∧ ERep X.K H3 μ3 h3.n env3 σ3 ∧ (whileM mt b m env3 h3).all F, ⟨n, env, μ, h, Post.refl hr, er, start⟩, ?_⟩
  rintro m σ3 H3 ⟨env3, μ3, h3, p3, er3, f3⟩
  cases m with
  | zero => exact False.elim f3
  | succ m =>
    rw [whileM] at f3
    refine hc env3 h3 σ3 H3 μ3 _ p3.rep er3 (R.all_mono (R.all_bind.mp f3) fun k h4 f4 H4 μ4 k' p4 ek => ?_)
    have ek : k = k' := ek
    subst ek
    have p34 := p3.trans hr p4
    cases k with
    | false => exact iteF (use f4 H4 μ4 (.nx σ3) p34 (p4.er p3.rep er3))
    | true =>
      refine iteT ⟨fun σ' H' => ∃ env4 μ4 h4, Post X.prog X.w X.K H μ h H' μ4 h4 ∧ ERep X.K H' μ4 h4.n env4 σ' ∧ (whileM mt b m env4 h4).all F, fun σ' H' q => ⟨m, Nat.lt_succ_self m, q⟩, ?_⟩
      refine hb env3 h4 σ3 H4 μ4 _ p4.rep (p4.er p3.rep er3) (R.all_mono (R.all_bind.mp f4) fun fl h6 f6 H6 μ6 v6 p6 r6 => ?_)
      have p7 := p34.trans hr p6
      cases fl with
      | nx e => cases v6 <;> first | exact False.elim r6 | exact ⟨e, μ6, h6, p7, r6, f6⟩
      | ct e => cases v6 <;> first | exact False.elim r6 | exact ⟨e, μ6, h6, p7, r6, f6⟩
      | bk e =>
        cases v6 with
        | bk σ6 => exact use f6 H6 μ6 (.nx σ6) p7 r6
        | _ => exact False.elim r6
      | rt d =>
        cases v6 with
        | rt v => exact use f6 H6 μ6 (.rt v) p7 r6
        | _ => exact False.elim r6
def ixN' (n : Nat) (i : Int) : Option Nat := ixN n i
def gSubL (mo mi : ME) : MJ := fun it env h => match it with
  | .one d => (mo env h).bind fun o h1 => (mi env h1).bind fun i h2 => match i with
    | .int k => match ownD o h2 with
      | some (j, 0, ds) => match ixN ds.length k with
        | some p => .ok env (h2.put j (.lst 0 (ds.set p d)))
        | none => .err
      | _ => .err
    | _ => .err
  | .two _ _ => .err
theorem ij_sub {o i : Expr} {mo mi : ME} (ho : ImplE X o mo) (hi : ImplE X i mi)
    (ha : ∀ v, assign (.Subscript o i pos) X.env v = (do
      let ov ← holding [v] (eval o X.env)
      let iv ← holding [v, ov] (eval i X.env)
      standAt pos
      holding [v, ov, iv] (setItem ov iv v)
      release [v, ov, iv] []) := by intro _; rfl) : ImplJ X (.Subscript o i pos) [] (gSubL mo mi) := by
  intro it v env h σ H μ Q hr er ri br
  cases it with
  | two a b => exact False.elim br
  | one d =>
    refine mxG.of (pg_sub peX peX set_list ha) ?_
    refine ho.seq hr er br fun vo H1 od μ1 h1 hr1 er1 p1 r1 br1 => ?_
    refine hi.seq hr1 er1 br1 fun vi H2 idd μ2 h2 hr2 er2 p2 r2 br2 => ?_
    split at br2
    · rename_i k
      split at br2
      · rename_i j ds q
        split at br2
        · rename_i p qp
          cases r2
          obtain ⟨_, hj, hg, ev, vs, hH, ra⟩ := ownD_of hr2 (p2.rp hr1 r1) q
          subst ev
          have rd : Rep X.K H2 μ2 h2.n d v := p2.rp hr1 (p1.rp hr ri)
          have P := Post.wr hr2 hj hg hH (ra.set rd p)
          exact ⟨_, vs, k, p, rfl, rfl, hH, by rw [← ra.length]; exact qp, OnlyS.refl _ _, br2 _ _ _ P (P.er hr2 er2)⟩
        · exact False.elim br2
      · exact False.elim br2
    · exact False.elim br2
end
end Mi
set_option Elab.async false
set_option linter.all false
set_option autoImplicit false
set_option maxHeartbeats 1600000
namespace Mi
open PySem PySem.Spec PyProof.Rows L2 Mset
open PySem.W (EachIs)

/-- room for k calls, nothing is being shown -/
structure RoomG (k : Nat) (A : Around) : Prop where
  rm : Room k A
  gd : A.guards = some []
theorem RoomG.mono {j k : Nat} {A : Around} (r : RoomG k A) (h : j ≤ k) : RoomG j A := ⟨r.rm.mono h, r.gd⟩
theorem RoomG.u64 {k : Nat} {A : Around} (r : RoomG k A) : A.units + 64 < cLine := by have := r.rm.un; omega
theorem RoomG.u65 {k : Nat} {A : Around} (r : RoomG k A) : A.units + 65 < cLine := by have := r.rm.un; omega
theorem RoomG.u70 {k : Nat} {A : Around} (r : RoomG k A) : A.units + 70 < cLine := by have := r.rm.un; omega
/-- a def's promise where nothing is being shown -/
structure FnG (P : Program) (w : World) (K : PySem.W.Frag) (mg : Str → Option Value) (base : Heap) (k : Nat) (f : Addr) (fd : FuncData) (ps : List Str) (sp : Sp) : Prop where
  lenG : ∀ xs H Q E, sp xs H Q E → xs.length = ps.length
  go : ∀ (A : Around) (out : List Env) (s : Shared) (H : Hp) (ar : Args) (us : List Value) (xs : List V) (Q : VK) (E : XK), RoomG k A → Env0 P w K mg base A out s H → BindsTo s fd ar (ps.zip us) → Vals xs us → sp xs H Q E →
    codeAny (model P w) A (.call (.ref f) ar) (CR CX0 out P w H s Q E) s
section
variable {P : Program} {w : World} {K : PySem.W.Frag} {mg : Str → Option Value} {base : Heap} {k j : Nat} {f : Addr} {fd : FuncData} {ps : List Str} {sp sp2 : Sp}
theorem FnG.mono (F : FnG P w K mg base j f fd ps sp) (h : j ≤ k) : FnG P w K mg base k f fd ps sp := ⟨F.lenG, fun A out s H ar us xs Q E r => F.go A out s H ar us xs Q E (r.mono h)⟩
theorem FnG.imp (F : FnG P w K mg base k f fd ps sp) (h : ∀ xs H Q E, sp2 xs H Q E → sp xs H Q E) : FnG P w K mg base k f fd ps sp2 :=
  ⟨fun xs H Q E q => F.lenG xs H Q E (h _ _ _ _ q), fun A out s H ar us xs Q E r e b v q => F.go A out s H ar us xs Q E r e b v (h _ _ _ _ q)⟩
/-- a def of the text keeps its promise, by its body -/
theorem fnG_of {x qual : Str} {par : Arguments} {bd : List Stmt} {sc : Scope} {dvs : List V} {kws : List (Str × V)} {N : List Str} (F : FunD K x qual par bd sc dvs kws f fd) (S : FnScope N ps sc) (le : ∀ xs H Q E, sp xs H Q E → xs.length = ps.length)
    (hb : ∀ (cdv : Value) (A : Around) (out : List Env) (s : Shared) (H : Hp) (xs : List V) (Q : VK) (E : XK), RoomG k (A.deeper (envOfC qual sc s.heap.objs.size f cdv)) → sp xs H Q E →
      ∃ t, PSs (cxOf CX0 P w K mg base N qual sc f cdv A out s H E) bd t ∧ t { nx := fun _ H' => Q .non H', rt := Q } (L2.start N xs) H) : FnG P w K mg base (k + 1) f fd ps sp := by
  obtain ⟨oc, od, dV, kV, doc, pm, an, cdv, ct, osl, rfl, lk, cdIn, _, _⟩ := F.ex
  refine ⟨le, fun A out s H ar us xs Q E room env bnd rel prom => ?_⟩
  have lx := le _ _ _ _ prom
  have KI : K.In s.heap := env.mod.kin.keeps fun b o e => (env.bs b o e).1
  have nl : s.heap.NoLimit := env.mod.nolimit.keeps fun b o e => (env.bs b o e).1
  have kinds : ∀ y ∈ ps.zip us, sc.names.lookup y.1 = some .local ∨ (sc.names.lookup y.1 = some .cell ∧ ((cellsFrom (s.heap.objs.size + 1) sc.names []).lookup y.1).isSome = true) := fun ⟨n, v⟩ hy => by
    rcases S.par n (List.of_mem_zip hy).1 with z | z
    · exact .inl z
    · exact .inr ⟨z, PySem.W.cellsFrom_some _ _ _ (.inl z)⟩
  refine codeAny_call_function room.rm.depth (KI _ _ lk) rfl S.co S.gen rfl (PySem.W.codeRec_of KI cdIn) (bnd _ _ _ _ ?_)
  refine wpAny_newFunctionEnv_cells S.kind kinds fun en he s1 z => ?_
  subst he
  refine ⟨nl.keeps z.toInCall.keep, codeAny_func ?_⟩
  obtain ⟨t, pt, rd⟩ := hb cdv A out s H xs Q E ⟨room.rm.deeper _, room.gd⟩ prom
  have J0 : Inv (cxOf CX0 P w K mg base N qual sc f cdv A out s H E) [] (L2.start N xs) H s1 := inv_start S room.rm.hd env lx rel z
  refine wpAny_mono (pt.run [] s1 (L2.start N xs) H _ J0 rd) (fun fl s2 q => ?_) fun e s2 q => q
  cases fl with
  | ret u =>
    obtain ⟨v, σ2, H2, J, rv, q⟩ := q
    exact ⟨v, H2, J.os, J.bare, J.base, J.hok, rv, q⟩
  | next =>
    obtain ⟨σ2, H2, J, q⟩ := q
    exact ⟨.non, H2, J.os, J.bare, J.base, J.hok, rfl, q⟩
  | brk => exact False.elim (let ⟨_, _, _, q⟩ := q; q)
  | cont => exact False.elim (let ⟨_, _, _, q⟩ := q; q)
end
section
variable {X : Cx} {k : Nat} {f : Addr} {fd : FuncData} {ps : List Str} {sp : Sp} {x : Str} {e : Expr} {es : List Expr} {t : TA} {p pos : Pos}
/-- f(e, ..) -/
theorem pe_callG (F : FnG X.prog X.w X.K X.mg X.base k f fd ps sp) (room : RoomG k X.A) (gl : Gl X x) (mx : X.mg x = some (.ref f)) (kp : PySem.W.keepIn X.K (.ref f) = true) (bn : Binds X.K fd ps [])
    (ar : PA X (e :: es) t) (db : (x == ("__debug__" : Str)) = false) (h1 : starEach (e :: es) X.env = (false, eval e X.env) :: starEach es X.env)
    (h2 : (backTo pos (starEach es X.env)).any (·.1) = false) : PE X (.Call (.Name x p) (e :: es) [] pos) (fun σ H Q => t σ H fun xs H1 => sp xs H1 Q E0) := by
  refine ⟨fun pins s σ H Q I q0 => ?_⟩
  refine wpAny_Call_Name_kw (ld_glob I gl mx ?_ db)
  refine PySem.W.callWith_K (h₀ := X.base) I.ok.mod.kin kp (thn (ar.run pos pins s σ H _ I q0) fun us s1 ⟨xs, H1, I1, rel, q⟩ => ⟨I1.kIn, ?_⟩) h1 h2
  have lu : (us ++ []).length = ps.length := by rw [List.append_nil, ← rel.length]; exact F.lenG _ _ _ _ q
  have bb := bn s1 us I1.kIn lu
  rw [List.append_nil] at bb
  refine wpAny_call (codeAny_mono (F.go X.A X.stack s1 H1 ⟨us, []⟩ us xs Q E0 room I1.env0 bb rel q) fun r s2 q2 => ?_)
  cases r with
  | error er => exact False.elim q2
  | ok fl =>
    cases fl with
    | ret u => exact I1.after q2
    | _ => exact False.elim q2
end
/-- a def's promise by its mirror -/
def spM (P : Program) (w : World) (K : PySem.W.Frag) (n : Nat) (f : FA) : Sp := fun vs H Q _ => ∃ ds h μ, ds.length = n ∧ HRep P w K H μ h ∧ RepAll K H μ h.n ds vs ∧ BR P w K (rpD K) H μ h (f ds h) Q
/-- the module's name x is a def that keeps its mirror's promise, at most k calls deep -/
structure CallM (P : Program) (w : World) (K : PySem.W.Frag) (mg : Str → Option Value) (base : Heap) (k n : Nat) (x : Str) (f : FA) : Prop where
  ex : ∃ (a : Addr) (fd : FuncData) (ps : List Str), FnG P w K mg base k a fd ps (spM P w K n f) ∧ mg x = some (.ref a) ∧ PySem.W.keepIn K (.ref a) = true ∧ Binds K fd ps []
theorem CallM.mono {P : Program} {w : World} {K : PySem.W.Frag} {mg : Str → Option Value} {base : Heap} {k k' n : Nat} {x : Str} {f : FA} (c : CallM P w K mg base k n x f) (h : k ≤ k') : CallM P w K mg base k' n x f := by
  obtain ⟨a, fd, ps, F, r⟩ := c.ex
  exact ⟨a, fd, ps, F.mono h, r⟩
/-- another mirror that promises less -/
theorem CallM.imp {P : Program} {w : World} {K : PySem.W.Frag} {mg : Str → Option Value} {base : Heap} {k n : Nat} {x : Str} {f g : FA} (c : CallM P w K mg base k n x f)
    (h : ∀ (ds : List D) (hh : MH) (H : Hp) (μ : Nat → Addr) (vs : List V) (Q : VK), ds.length = n → HRep P w K H μ hh → RepAll K H μ hh.n ds vs → BR P w K (rpD K) H μ hh (g ds hh) Q → spM P w K n f vs H Q E0) : CallM P w K mg base k n x g := by
  obtain ⟨a, fd, ps, F, r⟩ := c.ex
  refine ⟨a, fd, ps, F.imp fun vs H Q E q => ?_, r⟩
  obtain ⟨ds, hh, μ, l, hr, ra, br⟩ := q
  exact h ds hh H μ vs Q l hr ra br
section
variable {X : Cx} {e : Expr} {es : List Expr} {ma : MA} {x : Str} {f : FA} {k n : Nat} {p pos : Pos}
def mCallF (n : Nat) (f : FA) (ma : MA) : ME := fun env h => (ma env h).bind fun ds h1 => bif Nat.beq ds.length n then f ds h1 else .err
theorem ie_call (c : CallM X.prog X.w X.K X.mg X.base k n x f) (hr : RoomG k X.A) (hg : Gl X x) (ha : ImplA X (e :: es) ma) (hdb : (x == ("__debug__" : Str)) = false := by decide) (he : starEach (e :: es) X.env = (false, eval e X.env) :: starEach es X.env := by rfl)
    (hpl : (backTo pos (starEach es X.env)).any (·.1) = false := by rfl) : ImplE X (.Call (.Name x p) (e :: es) [] pos) (mCallF n f ma) := by
  obtain ⟨a, fd, ps, F, hm, hk, hb⟩ := c.ex
  intro env h σ H μ Q hrep er br
  refine mxE.of (pe_callG F hr hg hm hk hb paX hdb he hpl) ?_
  refine ha.seq hrep er br fun vs H1 ds μ1 h1 hr1 er1 p1 r1 br1 => ?_
  obtain ⟨lk, br1⟩ := bif_all br1
  exact ⟨ds, h1, μ1, Nat.eq_of_beq_eq_true lk, hr1, r1, br1⟩
theorem ie_glob {i : Int} {t : Tok} (hg : Gl X x) (hm : X.mg x = some (.int i t)) (hd : (x == ("__debug__" : Str)) = false := by decide) : ImplE X (.Name x pos) (mC (.int i)) := by
  intro env h σ H μ Q hr er br
  exact mxE.of (pe_glob (v := .int i) hg hm ⟨t, rfl⟩ hd) (br.pure hr (.int i))
end
/-- the slots at the entry -/
def startE (k : Nat) (ds : List D) : Ev := ds.map some ++ List.replicate k none
def bodyK : Fl → MH → R D
  | .rt d, h => .ok d h
  | .nx _, h => .ok .non h
  | _, _ => .err
/-- a def's mirror: k slots behind its parameters -/
def mDef (k : Nat) (b : MS) : FA := fun ds h => (b (startE k ds) h).bind bodyK
theorem start_rep {K : PySem.W.Frag} {H : Hp} {μ : Nat → Addr} {n : Nat} {ds : List D} {vs : List V} (ra : RepAll K H μ n ds vs) (k : Nat) : ERep K H μ n (startE k ds) (vs.map some ++ List.replicate k none) := by
  have l := ra.length
  refine ⟨by simp [startE, l], fun i d hi => ?_⟩
  unfold startE at hi
  by_cases h : i < ds.length
  · rw [List.getElem?_append_left (by rw [List.length_map]; exact h), List.getElem?_map] at hi
    rw [List.getElem?_append_left (by rw [List.length_map]; omega), List.getElem?_map]
    cases q : ds[i]? with
    | none => rw [q] at hi; cases hi
    | some d' =>
      rw [q] at hi
      cases hi
      obtain ⟨v, e, r⟩ := ra.get q
      exact ⟨v, by rw [e]; rfl, r⟩
  · rw [List.getElem?_append_right (by rw [List.length_map]; omega), List.getElem?_replicate] at hi
    split at hi <;> cases hi
section
variable {P : Program} {w : World} {K : PySem.W.Frag} {mg : Str → Option Value} {base : Heap}
/-- a def keeps the promise of its mirror -/
theorem call_def {x qual : Str} {st : Stmt} {f : Addr} {fd : FuncData} {N ps : List Str} {k n j : Nat} {b : MS} (F : FunD K x qual (defArgs st) (defBody st) (defScope st) [] [] f fd) (S : FnScope N ps (defScope st)) (hm : mg x = some (.ref f)) (hn : ps.length = n) (hj : N.length = n + j)
    (hB : ∀ (kV doc pm : Value) (an : Option Addr) (cdv ct : Value) (us : List Value), us.length = ps.length → bindArgs (PySem.W.fnOf x qual (defArgs st) (defBody st) (defScope st) .none kV doc pm an cdv ct) ⟨us, []⟩ = pure (ps.zip us))
    (hbody : ∀ (cdv : Value) (A : Around) (outer : List Env) (s : Shared) (H : Hp) (E : XK), RoomG k (A.deeper (envOfC qual (defScope st) s.heap.objs.size f cdv)) → ImplSs (cxOf CX0 P w K mg base N qual (defScope st) f cdv A outer s H E).nox (defBody st) b) :
    CallM P w K mg base (k + 1) n x (mDef j b) := by
  refine ⟨f, fd, ps, fnG_of F S (fun vs H Q E h => ?_) (fun cdv A outer s H vs Q E hr h => ⟨mxSs (cxOf CX0 P w K mg base N qual (defScope st) f cdv A outer s H E).nox (defBody st), PSs.nox pssX, ?_⟩), hm, F.kp, F.bindsN hB⟩
  · obtain ⟨ds, hh, μ, l, hr, ra, br⟩ := h
    rw [← ra.length, l, hn]
  · obtain ⟨ds, hh, μ, l, hrep, ra, br⟩ := h
    have e : L2.start N vs = vs.map some ++ List.replicate j none := by
      unfold L2.start
      rw [hj, ← ra.length, l, Nat.add_sub_cancel_left]
    rw [e]
    refine hbody cdv A outer s H E hr (startE j ds) hh _ H μ _ hrep (start_rep ra j) (R.all_mono (R.all_bind.mp br) fun fl h1 q H1 μ1 v p r => ?_)
    cases fl with
    | rt d =>
      cases v with
      | rt u => exact q H1 μ1 u p r
      | _ => exact False.elim r
    | nx env =>
      cases v with
      | nx σ => exact q H1 μ1 .non p .non
      | _ => exact False.elim r
    | _ => exact False.elim q
end
end Mi
set_option Elab.async false
set_option linter.all false
set_option autoImplicit false
set_option maxRecDepth 100000
set_option maxHeartbeats 1600000
namespace Mi
open PySem PySem.Spec PyProof.Rows L2 Mset
open PySem.W (EachIs)

/-- a def that calls itself, so many times deep -/
def mRec (j : Nat) (b : FA → MS) : Nat → FA := fun k => Nat.rec (mDef j mErr) (fun _ ih => mDef j (b ih)) k
theorem call_rec {P : Program} {w : World} {K : PySem.W.Frag} {mg : Str → Option Value} {base : Heap} {x qual : Str} {st : Stmt} {f : Addr} {fd : FuncData} {N ps : List Str} {L n j : Nat} {b : FA → MS}
    (F : FunD K x qual (defArgs st) (defBody st) (defScope st) [] [] f fd) (S : FnScope N ps (defScope st)) (hm : mg x = some (.ref f)) (hn : ps.length = n) (hj : N.length = n + j)
    (hB : ∀ (kV doc pm : Value) (an : Option Addr) (cdv ct : Value) (us : List Value), us.length = ps.length → bindArgs (PySem.W.fnOf x qual (defArgs st) (defBody st) (defScope st) .none kV doc pm an cdv ct) ⟨us, []⟩ = pure (ps.zip us))
    (hbody : ∀ (self : FA) (k : Nat), CallM P w K mg base (L + k) n x self → ∀ (cdv : Value) (A : Around) (outer : List Env) (s : Shared) (H : Hp) (E : XK), RoomG (L + k) (A.deeper (envOfC qual (defScope st) s.heap.objs.size f cdv)) →
      ImplSs (cxOf CX0 P w K mg base N qual (defScope st) f cdv A outer s H E).nox (defBody st) (b self)) : ∀ k : Nat, CallM P w K mg base (L + k + 1) n x (mRec j b k)
  | 0 => call_def F S hm hn hj hB fun cdv A outer s H E hr => fun _ _ _ _ _ _ _ _ br => False.elim br
  | k + 1 => call_def F S hm hn hj hB fun cdv A outer s H E hr => hbody (mRec j b k) (k + 1) (call_rec F S hm hn hj hB hbody k) cdv A outer s H E hr

section
variable {X : Cx} {a b c e : Expr} {ma mb mc : ME} {x : Str} {pos : Pos}
theorem ie_cst {i : Int} (h : ∃ t, X.mg x = some (.int i t)) (hg : Gl X x) (hd : (x == ("__debug__" : Str)) = false := by decide) : ImplE X (.Name x pos) (mC (.int i)) := by
  obtain ⟨t, hm⟩ := h
  exact ie_glob hg hm hd
theorem it_chain {op op' : CmpOp} {f g : F2} (ho : Op2 X (compareOp op) f) (ho' : Op2 X (compareOp op') g) (ha : ImplE X a ma) (hb : ImplE X b mb) (hc : ImplE X c mc)
    (hm : lastMarks [op, op'] [b, c] = false := by with_unfolding_all rfl) : ImplT X (.Compare a [op, op'] [b, c] pos) (mTB (mChain f g ma mb mc)) := by
  intro env h σ H μ Q hr er br
  refine mxT.of (pt_chain ho ho' peX peX peX hm) ?_
  have br : BR X.prog X.w X.K rpB H μ h ((ma env h).bind fun x h1 => (mb env h1).bind fun y h2 => ((f x y h2).bind fun z h3 => match z with
    | .bl true => (mc env h3).bind fun w h4 => g y w h4
    | .bl false => .ok (.bl false) h3
    | _ => .err).bind fun d h1 => match d with | .bl b => .ok b h1 | _ => .err) Q := by
    refine R.all_bind.mpr (R.all_mono (R.all_bind.mp (R.all_bind.mp br)) fun x h1 q => ?_)
    exact R.all_bind.mpr (R.all_mono (R.all_bind.mp q) fun y h2 q2 => R.all_bind.mpr q2)
  refine two (Q' := _) ha hb hr er br fun v u H2 x y μ2 h2 hr2 er2 _ rx ry br2 => ?_
  have br2 := R.all_bind.mp (R.all_bind.mp br2)
  refine ⟨x, y, h2, μ2, hr2, rx, ry, R.all_mono br2 fun dz h3 br3 H3 μ3 z p3 rz => ?_⟩
  cases dz with
  | bl k =>
    cases rz
    refine ⟨k, rfl, ?_⟩
    cases k with
    | true =>
      refine iteT ?_
      refine hc env h3 σ H3 μ3 _ p3.rep (p3.er hr2 er2) (R.all_mono (R.all_bind.mp br3) fun dw h4 br4 H4 μ4 w p4 rw4 => ?_)
      refine ⟨y, dw, h4, μ4, p4.rep, p4.rp p3.rep (p3.rp hr2 ry), rw4, R.all_mono br4 fun d h5 q H5 μ5 v5 p5 r5 => ?_⟩
      split at q
      · cases r5
        exact ⟨_, rfl, q H5 μ5 _ ((p3.trans hr2 p4).trans hr2 p5) rfl⟩
      · exact False.elim q
    | false => exact iteF ⟨false, rfl, br3 H3 μ3 false p3 rfl⟩
  | _ => exact False.elim br3
/-- a, b, c = x, y, z -/
def mPar3 (i j l : Nat) (ma : MA) : MS := fun env h => (ma env h).bind fun ds h1 => match ds with
  | [a, b, c] => .ok (.nx (setE (setE (setE env i a) j b) l c)) h1
  | _ => .err
theorem is_par3 {i j l : Nat} {x y z : Str} {ma : MA} {px py pz pt : Pos} {kt k2 pt2} (hc : X.calm = true) (hN : X.N.Nodup) (hi : X.N[i]? = some x) (hj : X.N[j]? = some y) (hl : X.N[l]? = some z) (hij : i ≠ j) (hil : i ≠ l) (hjl : j ≠ l)
    (hx : X.env.scope.names.lookup x = some .local) (hy : X.env.scope.names.lookup y = some .local) (hz : X.env.scope.names.lookup z = some .local) (ha : ImplA X [a, b, c] ma)
    (hw : swappedStores [.Tuple [.Name x px, .Name y py, .Name z pz] kt pt] (.Tuple [a, b, c] k2 pt2) X.env = pure (some [x, y, z]) := by rfl)
    (hs : swapsWithSole [.Tuple [.Name x px, .Name y py, .Name z pz] kt pt] (.Tuple [a, b, c] k2 pt2) pos.line X.env = pure false := by rfl) :
    ImplS X (.Assign [.Tuple [.Name x px, .Name y py, .Name z pz] kt pt] (.Tuple [a, b, c] k2 pt2) pos) (mPar3 i j l ma) := by
  intro env h σ H μ E hr er br
  refine mxS.of (ps_par3 hc hN hi hj hl hij hil hjl hx hy hz paX hw hs) ?_
  refine ha.seq hr er br fun vs H1 ds μ1 h1 hr1 er1 p1 r1 br1 => ?_
  split at br1
  · cases r1 with
    | cons r1 r2 =>
      cases r2 with
      | cons r2 r3 =>
        cases r3 with
        | cons r3 r4 =>
          cases r4
          exact ⟨_, _, _, rfl, br1 H1 μ1 (.nx _) (Post.refl hr1) (((er1.set r1 i).set r2 j).set r3 l)⟩
  · exact False.elim br1
end
end Mi
set_option Elab.async false
set_option linter.all false
set_option autoImplicit false
set_option maxRecDepth 100000
set_option maxHeartbeats 1600000
namespace Mi
open PySem PySem.Spec PyProof.Rows L2 Mset
open PySem.W (EachIs)

mutual
def D.eqb : D → D → Bool
  | .non, .non => true
  | .bl a, .bl b => a == b
  | .int i, .int j => decide (i = j)
  | .str x, .str y => decide (x = y)
  | .tup xs, .tup ys => D.eqbs xs ys
  | .ref i, .ref j => Nat.beq i j
  | _, _ => false
def D.eqbs : List D → List D → Bool
  | [], [] => true
  | x :: xs, y :: ys => D.eqb x y && D.eqbs xs ys
  | _, _ => false
end
mutual
theorem eqb_to : ∀ x y : D, D.eqb x y = true → x = y
  | .non, y, h => by cases y <;> simp [D.eqb] at h; rfl
  | .bl a, y, h => by cases y <;> simp [D.eqb] at h; rw [h]
  | .int a, y, h => by cases y <;> simp [D.eqb] at h; rw [h]
  | .str a, y, h => by cases y <;> simp [D.eqb] at h; rw [h]
  | .ref a, y, h => by cases y <;> simp [D.eqb] at h; rw [h]
  | .tup xs, y, h => by
    cases y <;> simp [D.eqb] at h
    rw [eqbs_to xs _ h]
theorem eqbs_to : ∀ xs ys : List D, D.eqbs xs ys = true → xs = ys
  | [], ys, h => by cases ys <;> simp [D.eqbs] at h; rfl
  | x :: xs, ys, h => by
    cases ys <;> simp [D.eqbs] at h
    rw [eqb_to x _ h.1, eqbs_to xs _ h.2]
end
mutual
theorem eqb_refl : ∀ x : D, D.eqb x x = true
  | .non => rfl
  | .bl a => by simp [D.eqb]
  | .int a => by simp [D.eqb]
  | .str a => by simp [D.eqb]
  | .ref a => by simp [D.eqb]
  | .tup xs => by rw [D.eqb]; exact eqbs_refl xs
theorem eqbs_refl : ∀ xs : List D, D.eqbs xs xs = true
  | [] => rfl
  | x :: xs => by rw [D.eqbs, eqb_refl x, eqbs_refl xs]; rfl
end
theorem eqb_iff (x y : D) : D.eqb x y = true ↔ x = y := ⟨eqb_to x y, fun e => by rw [e]; exact eqb_refl y⟩

def findD (y : D) : List (D × D) → Option D
  | [] => none
  | p :: r => bif D.eqb p.1 y then some p.2 else findD y r
def storeD (y d : D) : List (D × D) → List (D × D)
  | [] => [(y, d)]
  | p :: r => bif D.eqb p.1 y then (p.1, d) :: r else p :: storeD y d r
/-- a dict that is the small heap's, unlocked -/
def dctD (d : D) (h : MH) : Option (Nat × List (D × D)) := match d with
  | .ref i => match h.get i with
    | some (.dct 0 kvs) => some (i, kvs)
    | _ => none
  | _ => none
/-- a key -/
def keyD (y : D) : Bool := isTup y && (y.low 8 && match D.key y with | some _ => true | none => false)
section
variable {P : Program} {w : World} {K : PySem.W.Frag} {H : Hp} {μ : Nat → Addr} {h : MH} {n : Nat}
theorem dctD_of (hr : HRep P w K H μ h) {d : D} {v : V} (r : Rep K H μ h.n d v) {i : Nat} {kvs : List (D × D)} (e : dctD d h = some (i, kvs)) : d = .ref i ∧ i < h.n ∧ h.get i = some (.dct 0 kvs) ∧ v = .ref (μ i) ∧ ∃ xs, H (μ i) = some (DctO P w (μ i) xs) ∧ Paired (KvOk K H μ h.n) kvs xs := by
  unfold dctD at e
  cases d with
  | ref j =>
    cases r with
    | ref hj =>
      obtain ⟨o, e1, e2⟩ := hr.obj j hj
      simp only [e1] at e
      split at e
      · rename_i kvs' q
        cases q
        simp only [Option.some.injEq, Prod.mk.injEq] at e
        obtain ⟨rfl, rfl⟩ := e
        exact ⟨rfl, hj, e1, rfl, e2⟩
      · cases e
  | _ => cases e
theorem find_pair {y : D} {k : NestedKey} (hk : y.key = some k) : ∀ {kvs : List (D × D)} {xs : List (NestedKey × Addr × Value)}, Paired (KvOk K H μ n) kvs xs →
    match findD y kvs with
    | some d => ∃ p, atKey xs k = some p ∧ ∃ v, RelV v p.2 ∧ Rep K H μ n d v
    | none => atKey xs k = none
  | _, _, .nil => rfl
  | _, _, .cons (a := p) (b := x) r t => by
    have ih := find_pair hk t
    rw [findD]
    cases q : D.eqb p.1 y with
    | true =>
      have e := (eqb_iff _ _).mp q
      have ek : x.1 = k := Option.some.inj (r.key.symm.trans (e ▸ hk))
      exact ⟨x.2, by simp [atKey, ek], r.vr⟩
    | false =>
      have ne : ¬ x.1 = k := fun z => by
        have e := key_inj p.1 y k (by rw [r.key, z]) hk
        rw [e, eqb_refl] at q
        cases q
      have step : ∀ l : List (NestedKey × Addr × Value), atKey (x :: l) k = atKey l k := fun l => by simp [atKey, List.find?_cons, ne]
      simp only [cond_false]
      rw [step]
      exact ih
theorem store_pair {y d : D} {k : NestedKey} {a : Addr} {u : Value} {v : V} (hk : y.key = some k) (hd : k.depth ≤ 8) (ry : Rep K H μ n y (.ref a)) (ru : RelV v u) (rd : Rep K H μ n d v) : ∀ {kvs : List (D × D)} {xs : List (NestedKey × Addr × Value)}, Paired (KvOk K H μ n) kvs xs → (xs.map (·.1)).Nodup → Paired (KvOk K H μ n) (storeD y d kvs) (storedH xs k a u)
  | _, _, .nil, _ => by
    rw [storeD, storedH_new rfl]
    exact .cons ⟨hk, hd, ry, v, ru, rd⟩ .nil
  | _, _, .cons (a := p) (b := x) (l₁ := ps) (l₂ := rest) r t, hn => by
    rw [List.map_cons, List.nodup_cons] at hn
    have ih := store_pair hk hd ry ru rd t hn.2
    rw [storeD]
    cases q : D.eqb p.1 y with
    | true =>
      have e := (eqb_iff _ _).mp q
      have ek : x.1 = k := Option.some.inj (r.key.symm.trans (e ▸ hk))
      have at1 : atKey (x :: rest) k = some x.2 := by simp [atKey, ek]
      rw [storedH_old at1]
      have hrest : rest.map (putAt k u) = rest := by
        refine (List.map_congr_left fun z hz => ?_).trans (List.map_id _)
        unfold putAt
        rw [if_neg (fun w => hn.1 (by rw [ek, ← w]; exact List.mem_map.mpr ⟨z, hz, rfl⟩))]
        rfl
      rw [List.map_cons, hrest]
      refine .cons ?_ t
      unfold putAt
      rw [if_pos ek]
      exact ⟨r.key, r.dep, r.kr, v, ru, rd⟩
    | false =>
      have ne : ¬ x.1 = k := fun z => by
        have e := key_inj p.1 y k (by rw [r.key, z]) hk
        rw [e, eqb_refl] at q
        cases q
      have step : ∀ l : List (NestedKey × Addr × Value), atKey (x :: l) k = atKey l k := fun l => by simp [atKey, List.find?_cons, ne]
      have : storedH (x :: rest) k a u = x :: storedH rest k a u := by
        unfold storedH
        rw [step]
        split
        · rw [List.map_cons]
          unfold putAt
          rw [if_neg ne]
        · rfl
      rw [this]
      exact .cons r ih
theorem storeD_len (y d : D) : ∀ kvs : List (D × D), (storeD y d kvs).length ≤ kvs.length + 1
  | [] => Nat.le_refl _
  | p :: r => by
    rw [storeD]
    cases D.eqb p.1 y with
    | true => exact Nat.le_succ _
    | false => exact Nat.succ_le_succ (storeD_len y d r)
theorem paired_len {α β : Type} {F : α → β → Prop} : ∀ {l₁ : List α} {l₂ : List β}, Paired F l₁ l₂ → l₁.length = l₂.length
  | _, _, .nil => rfl
  | _, _, .cons _ t => congrArg Nat.succ (paired_len t)
/-- the dict i of the small heap is written -/
theorem Post.wrD {i : Nat} {kvs kws : List (D × D)} {xs ys : List (NestedKey × Addr × Value)} (hr : HRep P w K H μ h) (hi : i < h.n) (hg : h.get i = some (.dct 0 kvs)) (hH : H (μ i) = some (DctO P w (μ i) xs)) (ra : Paired (KvOk K H μ h.n) kws ys) :
    Post P w K H μ h (upd H (μ i) (DctO P w (μ i) ys)) μ (h.put i (.dct 0 kws)) := by
  have hc : i < MH.cap := Nat.lt_of_lt_of_le hi hr.cap
  have sq : ∀ a us, TupN K H a us → TupN K (upd H (μ i) (DctO P w (μ i) ys)) a us := by
    intro a us s
    rcases s with ⟨o, s, d⟩ | s
    · refine .inl ⟨o, ?_, d⟩
      rw [upd_ne (fun z => by subst z; rw [hH] at s; cases s)]
      exact s
    · exact .inr s
  have rps : ∀ ds vs, RepAll K H μ h.n ds vs → RepAll K (upd H (μ i) (DctO P w (μ i) ys)) μ h.n ds vs := fun ds vs => RepAll.mono sq (fun _ _ => rfl) (Nat.le_refl _) ds vs
  have rp : ∀ d v, Rep K H μ h.n d v → Rep K (upd H (μ i) (DctO P w (μ i) ys)) μ h.n d v := fun d v => Rep.mono sq (fun _ _ => rfl) (Nat.le_refl _) d v
  have kv : ∀ p x, KvOk K H μ h.n p x → KvOk K (upd H (μ i) (DctO P w (μ i) ys)) μ h.n p x := fun q x k => ⟨k.key, k.dep, rp _ _ k.kr, let ⟨v, r1, r2⟩ := k.vr; ⟨v, r1, rp _ _ r2⟩⟩
  have self : (h.put i (.dct 0 kws)).get i = some (.dct 0 kws) := by rw [MH.get_put hc, if_pos rfl]
  have oth : ∀ j, j ≠ i → (h.put i (.dct 0 kws)).get j = h.get j := fun j hj => by rw [MH.get_put hc, if_neg hj]
  have own : Own h μ (μ i) := ⟨i, _, hi, hg, rfl, rfl⟩
  have back : ∀ j oj, j < h.n → (h.put i (.dct 0 kws)).get j = some oj → ∃ ok, h.get j = some ok ∧ ok.mut = oj.mut := fun j oj hj e => by
    by_cases hij : j = i
    · subst hij
      rw [self] at e
      cases e
      exact ⟨_, hg, rfl⟩
    · rw [oth j hij] at e
      exact ⟨oj, e, rfl⟩
  refine ⟨⟨fun j hj => ?_, fun j k oj ok hj hk ej ek mj mk q => ?_, hr.cap⟩, fun a o e n => ?_, fun _ _ => rfl, Nat.le_refl _, fun j o a b => absurd (Nat.lt_of_lt_of_le b a) (Nat.lt_irrefl _), fun j o hj e l => ?_, fun j o hj e => ?_⟩
  · by_cases hij : j = i
    · subst hij
      exact ⟨_, self, ys, upd_same, Paired.mapP ra kv⟩
    · obtain ⟨o, e1, e2⟩ := hr.obj j hj
      refine ⟨o, (oth j hij).trans e1, ?_⟩
      have ne : o.mut = true → μ j ≠ μ i := fun m z => hij (hr.inj j i o _ hj hi e1 hg m rfl z)
      cases o with
      | lst lk ds => obtain ⟨us, e3, e4⟩ := e2; exact ⟨us, by rw [upd_ne (ne rfl)]; exact e3, rps _ _ e4⟩
      | frz ds =>
        obtain ⟨us, e3, e4⟩ := e2
        refine ⟨us, ?_, rps _ _ e4⟩
        rcases e3 with ⟨o, e3⟩ | e3
        · refine .inl ⟨o, ?_⟩
          rw [upd_ne (fun z => by rw [z, hH] at e3; cases e3)]
          exact e3
        · exact .inr e3
      | dct lk kvs =>
        obtain ⟨zs, e3, e4⟩ := e2
        exact ⟨zs, by rw [upd_ne (ne rfl)]; exact e3, Paired.mapP e4 kv⟩
      | box m => obtain ⟨i1, i2, i3, e3, e5⟩ := e2; exact ⟨i1, i2, i3, by rw [upd_ne (ne rfl)]; exact e3, e5⟩
  · obtain ⟨o1, a1, b1⟩ := back j oj hj ej
    obtain ⟨o2, a2, b2⟩ := back k ok hk ek
    exact hr.inj j k o1 o2 hj hk a1 a2 (b1.trans mj) (b2.trans mk) q
  · rw [upd_ne (fun z => n (by rw [z]; exact own))]
    exact e
  · by_cases hij : j = i
    · subst hij
      rw [hg] at e
      cases e
      exact absurd rfl l
    · rw [oth j hij]
      exact e
  · by_cases hij : j = i
    · subst hij
      rw [hg] at e
      cases e
      exact ⟨_, self, rfl⟩
    · exact ⟨o, (oth j hij).trans e, rfl⟩
end
section
variable {X : Cx} {pins : List (Addr × Obj)} {σ : L2.St} {H : Hp} {s : Shared} {μ : Nat → Addr} {n : Nat}
/-- the dict as the model's -/
theorem dctAt (I : Inv X pins σ H s) {d : Addr} {kvs : List (D × D)} {xs : List (NestedKey × Addr × Value)} (hH : H d = some (DctO X.prog X.w d xs)) (pr : Paired (KvOk X.K H μ n) kvs xs) :
    s.heap.DictOfH (nestedKind X.prog X.w) d xs ∧ xs.length ≤ sizeLine ∧ (d == sysModules) = false ∧ (xs.map (·.1)).Nodup := by
  obtain ⟨⟨z, sm, o, es, ep, h1, h2, h3, h4, h5⟩, _⟩ := I.hok d _ hH
  refine ⟨⟨o, es, ep, h1, h2, h3, h4, ?_, h5⟩, z, sm, h5⟩
  have go : ∀ {kvs : List (D × D)} {xs : List (NestedKey × Addr × Value)}, Paired (KvOk X.K H μ n) kvs xs → ∀ x ∈ xs, (nestedKind X.prog X.w).is s.heap x.1 x.2.1 := by
    intro kvs xs pr
    induction pr with
    | nil => intro x hx; cases hx
    | cons r _ ih =>
      intro x hx
      rcases List.mem_cons.mp hx with e | hx
      · rw [e]
        exact ⟨rep_key I _ _ _ _ r.kr rfl r.key, r.dep⟩
      · exact ih x hx
  exact go pr
theorem dctObj {h' : Heap} {d : Addr} {xs : List (NestedKey × Addr × Value)} {H' : Hp} (m : h'.DictOfH (nestedKind X.prog X.w) d xs) (z : xs.length ≤ sizeLine) (sm : (d == sysModules) = false) : ObjOk X.prog X.w H' h' d (DctO X.prog X.w d xs) := by
  obtain ⟨o, es, ep, h1, h2, h3, h4, _, h5⟩ := m
  refine ⟨⟨z, sm, o, es, ep, h1, h2, h3, h4, h5⟩, ⟨o, h1⟩, fun g1 g2 x k => ?_⟩
  obtain ⟨y1, y2, o', es', ep', z1, z2, z3, z4, z5⟩ := x
  exact ⟨y1, y2, o', es', ep', k _ z1, z2, z3, z4, z5⟩
/-- a key of the mirror as the model's -/
theorem keyAt (I : Inv X pins σ H s) {y : D} {v : V} {u : Value} (hk : keyD y = true) (ry : Rep X.K H μ n y v) (rv : RelV v u) : ∃ a k, v = .ref a ∧ u = .ref a ∧ y.key = some k ∧ k.depth ≤ 8 ∧ (nestedKind X.prog X.w).is s.heap k a := by
  unfold keyD at hk
  rw [Bool.and_eq_true, Bool.and_eq_true] at hk
  obtain ⟨h1, h2, h3⟩ := hk
  cases q : D.key y with
  | none => rw [q] at h3; cases h3
  | some k =>
    cases ry with
    | @tup a vs ds st ra =>
      cases rv
      have dp := low_key 8 _ k h2 q
      exact ⟨a, k, rfl, rfl, rfl, dp, rep_key I _ k _ _ (.tup st ra) rfl q, dp⟩
    | _ => simp [isTup] at h1
end

section
variable {X : Cx} {o i e : Expr} {mo mi m : ME} {pos : Pos}
def mDnew : ME := fun _ h => newM (.dct 0 []) h
theorem ie_dnew : ImplE X (.Dict [] [] pos) mDnew := by
  intro env h σ H μ Q hr er br
  intro pins s I
  unfold mDnew at br
  obtain ⟨hc, br⟩ := newM_lt br
  have hn : H s.heap.objs.size = none := I.hok.fresh (Nat.le_refl _)
  have sm : (s.heap.objs.size == sysModules) = false := beq_eq_false_iff_ne.mpr (Nat.ne_of_gt I.big)
  have po : Post X.prog X.w X.K H μ h (upd H s.heap.objs.size (DctO X.prog X.w s.heap.objs.size [])) (muN μ h.n s.heap.objs.size) (h.new (.dct 0 [])) := Post.newO hr rfl hc hn ⟨[], upd_same, .nil⟩
  have e : V.ref s.heap.objs.size = V.ref (muN μ h.n s.heap.objs.size h.n) := by rw [show muN μ h.n s.heap.objs.size h.n = s.heap.objs.size from if_pos rfl]
  have I1 : Inv X pins σ (upd H s.heap.objs.size (DctO X.prog X.w s.heap.objs.size [])) { s with heap := s.heap.push { cls := .type "dict", data := .dict #[] } } :=
    I.laid (t' := s.toks) (fun b u e => Heap.get?_push_of_some _ e) (Nat.le_refl _) (dctObj (Heap.DictOfH.new s.heap) (Nat.zero_le _) sm)
  have q := br _ _ (.ref (muN μ h.n s.heap.objs.size h.n)) po (.ref (Nat.lt_succ_self _))
  rw [← e] at q
  exact wpAny_Dict_empty ⟨.ref s.heap.objs.size, _, I1, rfl, q⟩
def dgetD : F2 := fun x y h => match dctD x h with
  | some (_, kvs) => bif keyD y then match findD y kvs with
    | some d => .ok d h
    | none => .err
    else .err
  | none => .err
theorem ix_dict (hu : X.A.units + 64 < cLine) : IxR X fun v u H Q => ∃ x y h μ, HRep X.prog X.w X.K H μ h ∧ Rep X.K H μ h.n x v ∧ Rep X.K H μ h.n y u ∧ BR X.prog X.w X.K (rpD X.K) H μ h (dgetD x y h) Q := by
  intro value slice pins s σ H v u vv uu Q I rv ru ⟨x, y, h, μ, hr, rx, ry, br⟩ hs
  unfold dgetD at br
  split at br
  · rename_i i kvs q
    obtain ⟨lk, br⟩ := bif_all br
    obtain ⟨_, hi, hg, ev, xs, hH, pr⟩ := dctD_of hr rx q
    subst ev
    cases rv
    obtain ⟨a, k, ev, eu, ek, dp, ki⟩ := keyAt I lk ry ru
    subst ev eu
    obtain ⟨m, z, sm, nd⟩ := dctAt I hH pr
    have fp := find_pair ek pr
    split at br
    · rename_i d qd
      rw [qd] at fp
      obtain ⟨p, ep, v1, r1, r2⟩ := fp
      exact subscriptTail_builtinR (x := p.2) m.typeIs slot_dict_getitem.lookup (wpAny_getItem_heap (Q := fun r s' => r = p.2 ∧ EP X pins σ Q r s') (by show _ + 8 < _; simp only [Around.in1_units]; omega) ki m ep ⟨rfl, v1, H, I.tok _, r1, br.pure hr r2⟩) hs
    · exact False.elim br
  · exact False.elim br
theorem ie_dget (hu : X.A.units + 64 < cLine) (ho : ImplE X o mo) (hi : ImplE X i mi) (hs : PlainIx i := by intro _ _; rfl) : ImplE X (.Subscript o i pos) (mBin dgetD mo mi) := by
  intro env h σ H μ Q hr er br
  refine mxE.of (pe_ix (ix_dict hu) peX peX hs) ?_
  exact two (Q' := fun v u H2 => ∃ x y h μ, HRep X.prog X.w X.K H2 μ h ∧ Rep X.K H2 μ h.n x v ∧ Rep X.K H2 μ h.n y u ∧ BR X.prog X.w X.K (rpD X.K) H2 μ h (dgetD x y h) Q) ho hi hr er br
    fun v u H2 x y μ2 h2 hr2 _ _ rx ry br2 => ⟨x, y, h2, μ2, hr2, rx, ry, br2⟩
/-- d[k] = e -/
def gSubD (mo mi : ME) : MJ := fun it env h => match it with
  | .one d => (mo env h).bind fun o h1 => (mi env h1).bind fun y h2 => match dctD o h2 with
    | some (j, kvs) => bif keyD y && lenOk kvs then .ok env (h2.put j (.dct 0 (storeD y d kvs))) else .err
    | none => .err
  | .two _ _ => .err
theorem storedH_len (xs : List (NestedKey × Addr × Value)) (k : NestedKey) (a : Addr) (v : Value) : (storedH xs k a v).length ≤ xs.length + 1 := by
  unfold storedH
  split
  · rw [List.length_map]; exact Nat.le_succ _
  · rw [List.length_append]; exact Nat.le_refl _
def rSetDD (X : Cx) : V → V → V → Hp → (Hp → Prop) → Prop := fun ov iv v H Q => ∃ o y d h μ j kvs, HRep X.prog X.w X.K H μ h ∧ Rep X.K H μ h.n o ov ∧ Rep X.K H μ h.n y iv ∧ Rep X.K H μ h.n d v ∧ dctD o h = some (j, kvs) ∧ keyD y = true ∧ lenOk kvs = true ∧
  ∀ H', Post X.prog X.w X.K H μ h H' μ (h.put j (.dct 0 (storeD y d kvs))) → Q H'
theorem set_dict (hu : X.A.units + 64 < cLine) : PSet X (rSetDD X) := by
  intro pins s σ H ov iv v ovv ivv u Q I ro ri rv ⟨o, y, d, h, μ, j, kvs, hr, rx, ry, rd, q, hk, hl, k2⟩
  obtain ⟨_, hj, hg, ev, xs, hH, pr⟩ := dctD_of hr rx q
  subst ev
  cases ro
  obtain ⟨a, k, ev, eu, ek, dp, ki⟩ := keyAt I hk ry ri
  subst ev eu
  obtain ⟨m, z, sm, nd⟩ := dctAt I hH pr
  have lx := Nat.ble_eq.mp hl
  have lp := paired_len pr
  refine wpAny_setItem_heap (hsz := z) (by show _ + 8 < _; simp only [Around.in1_units]; omega) ki m fun h' m' sb => ?_
  have pr' := store_pair ek dp ry rv rd pr nd
  have P := Post.wrD hr hj hg hH pr'
  have zl := storedH_len xs k a u
  refine ⟨_, I.write (x := μ j) (e := μ j) (by rw [hH]; trivial) (.inl rfl) (fun b o hb e => (sb.2 b hb).trans e) (let ⟨o, _, _, e, _⟩ := m'; ⟨o, e⟩) (dctObj m' (by rw [sizeLine_eq]; omega) sm), k2 _ P⟩
theorem ij_dsub (hu : X.A.units + 64 < cLine) (ho : ImplE X o mo) (hi : ImplE X i mi)
    (ha : ∀ v, assign (.Subscript o i pos) X.env v = (do
      let ov ← holding [v] (eval o X.env)
      let iv ← holding [v, ov] (eval i X.env)
      standAt pos
      holding [v, ov, iv] (setItem ov iv v)
      release [v, ov, iv] []) := by intro _; rfl) : ImplJ X (.Subscript o i pos) [] (gSubD mo mi) := by
  intro it v env h σ H μ Q hr er ri br
  cases it with
  | two a b => exact False.elim br
  | one d =>
    refine mxG.of (pg_sub peX peX (set_dict hu) ha) ?_
    refine ho.seq hr er br fun vo H1 od μ1 h1 hr1 er1 p1 r1 br1 => ?_
    refine hi.seq hr1 er1 br1 fun vi H2 y μ2 h2 hr2 er2 p2 r2 br2 => ?_
    split at br2
    · rename_i j kvs q
      obtain ⟨lk, br2⟩ := bif_all br2
      rw [Bool.and_eq_true] at lk
      exact ⟨od, y, d, h2, μ2, j, kvs, hr2, p2.rp hr1 r1, r2, p2.rp hr1 (p1.rp hr ri), q, lk.1, lk.2, fun H' P => ⟨OnlyS.refl _ _, br2 _ _ _ P (P.er hr2 er2)⟩⟩
    · exact False.elim br2
def okDc (x : D) (h : MH) : Bool := match dctD x h with
  | some _ => true
  | none => false
/-- a method of dicts -/
theorem mtDc {name : Str} {id : String} {f : FM} (pa : PlainAttrs "dict") (slot : Slot "dict" name id) (hty : typeOf (.builtin id) = pure (.type "method_descriptor"))
    (k : ∀ pins s σ H v vs vv us Q, Inv X pins σ H s → RelV v vv → Vals vs us → ∀ x ds h μ, HRep X.prog X.w X.K H μ h → Rep X.K H μ h.n x v → RepAll X.K H μ h.n ds vs → BR X.prog X.w X.K (rpD X.K) H μ h (f x ds h) Q →
      wpAny (model X.prog X.w) X.A (call (.builtin id) (vv :: us)) (EP X pins σ Q) X.xe s) : MtG X name okDc f := by
  intro pins s σ H μ h x v vv I rv hr rx ok
  unfold okDc at ok
  split at ok
  · rename_i p q
    obtain ⟨j, kvs⟩ := p
    obtain ⟨_, hj, hg, ev, xs, hH, pr⟩ := dctD_of hr rx q
    subst ev
    cases rv
    obtain ⟨m, _⟩ := dctAt I hH pr
    obtain ⟨o, _, _, e, ex, _⟩ := m
    exact ⟨"dict", _, pa, slot, hty, ⟨o, e, ex.1⟩, fun b z => by cases z; exact ⟨o, e, ex.2.1⟩, fun s2 H2 μ2 h2 es ws us Q I2 hr2 rx2 ra2 rs2 br2 => k pins s2 σ H2 (.ref (μ j)) ws _ us Q I2 rfl rs2 x es h2 μ2 hr2 rx2 ra2 br2⟩
  · cases ok
/-- d.get(k, x) -/
def getF : FM := fun x ds h => match ds with
  | [y, d0] => match dctD x h with
    | some (_, kvs) => bif keyD y then match findD y kvs with
      | some d => .ok d h
      | none => .ok d0 h
      else .err
    | none => .err
  | _ => .err
theorem mt_getD (hu : X.A.units + 64 < cLine) : MtG X "get" okDc getF := by
  refine mtDc PySem.F.plainAttrs_dict PySem.F.slot_dict_get PySem.F.type_dict_get fun pins s σ H v vs vv us Q I rv rvs x ds h μ hr rx ra br => ?_
  unfold getF at br
  split at br
  · rename_i y d0
    split at br
    · rename_i j kvs q
      obtain ⟨lk, br⟩ := bif_all br
      cases ra with
      | cons r1 r2 =>
        cases r2 with
        | cons r2 r3 =>
          cases r3
          obtain ⟨u1, u2, rfl, s1, s2⟩ := vals2 rvs
          obtain ⟨_, hj, hg, ev, xs, hH, pr⟩ := dctD_of hr rx q
          subst ev
          cases rv
          obtain ⟨a, k, ev, eu, ek, dp, ki⟩ := keyAt I lk r1 s1
          subst ev eu
          obtain ⟨m, z, sm, nd⟩ := dctAt I hH pr
          have fp := find_pair ek pr
          refine getOr_keyed (knd := nestedKind X.prog X.w) (by show _ + 8 < _; simp only [Around.in1_units]; omega) ki sm ⟨xs, m, rfl⟩ ?_
          rw [valueAt_pairsH]
          split at br
          · rename_i d qd
            rw [qd] at fp
            obtain ⟨p, ep, v1, w1, w2⟩ := fp
            rw [ep]
            exact ⟨v1, H, I.tok _, w1, br.pure hr w2⟩
          · rename_i qd
            rw [qd] at fp
            have fp : atKey xs k = none := fp
            rw [fp]
            exact ⟨_, H, I.tok _, s2, br.pure hr r2⟩
    · exact False.elim br
  · exact False.elim br
/-- d.setdefault(k, x) -/
def sdefF : FM := fun x ds h => match ds with
  | [y, d0] => match dctD x h with
    | some (j, kvs) => bif keyD y && lenOk kvs then match findD y kvs with
      | some d => .ok d h
      | none => .ok d0 (h.put j (.dct 0 (storeD y d0 kvs)))
      else .err
    | none => .err
  | _ => .err
theorem mt_sdefD (hu : X.A.units + 64 < cLine) : MtG X "setdefault" okDc sdefF := by
  refine mtDc PySem.F.plainAttrs_dict PySem.F.slot_dict_setdefault PySem.F.type_dict_setdefault fun pins s σ H v vs vv us Q I rv rvs x ds h μ hr rx ra br => ?_
  unfold sdefF at br
  split at br
  · rename_i y d0
    split at br
    · rename_i j kvs q
      obtain ⟨lk, br⟩ := bif_all br
      rw [Bool.and_eq_true] at lk
      cases ra with
      | cons r1 r2 =>
        cases r2 with
        | cons r2 r3 =>
          cases r3
          obtain ⟨u1, u2, rfl, s1, s2⟩ := vals2 rvs
          obtain ⟨_, hj, hg, ev, xs, hH, pr⟩ := dctD_of hr rx q
          subst ev
          cases rv
          obtain ⟨a, k, ev, eu, ek, dp, ki⟩ := keyAt I lk.1 r1 s1
          subst ev eu
          obtain ⟨m, z, sm, nd⟩ := dctAt I hH pr
          have fp := find_pair ek pr
          have lx := Nat.ble_eq.mp lk.2
          have lp := paired_len pr
          refine call_setdefault_heap (hsz := z) (by show _ + 8 < _; simp only [Around.in1_units]; omega) ki sm m (fun p hp => ?_) fun hn h' m' sb => ?_
          · split at br
            · rename_i d qd
              rw [qd] at fp
              obtain ⟨p', ep, v1, w1, w2⟩ := fp
              rw [hp] at ep
              cases ep
              exact ⟨v1, H, I.tok _, w1, br.pure hr w2⟩
            · rename_i qd
              rw [qd] at fp
              have fp : atKey xs k = none := fp
              rw [hp] at fp
              cases fp
          · split at br
            · rename_i d qd
              rw [qd] at fp
              obtain ⟨p', ep, _⟩ := fp
              rw [hn] at ep
              cases ep
            · have pr' := store_pair ek dp r1 s2 r2 pr nd
              have P := Post.wrD hr hj hg hH pr'
              have zl := storedH_len xs k a u2
              exact ⟨_, _, I.write (x := μ j) (e := μ j) (by rw [hH]; trivial) (.inl rfl) (fun b o hb e => (sb.2 b hb).trans e) (let ⟨o, _, _, e, _⟩ := m'; ⟨o, e⟩) (dctObj m' (by rw [sizeLine_eq]; omega) sm), s2, br _ _ _ P (P.rp hr r2)⟩
    · exact False.elim br
  · exact False.elim br
end
end Mi
set_option Elab.async false
set_option linter.all false
set_option autoImplicit false
set_option maxRecDepth 100000
set_option maxHeartbeats 1600000
namespace Mi
open PySem PySem.Spec PyProof.Rows L2 Mset
open PySem.W (EachIs)

section
variable {prog : Program} {w : World} {A : Around} {E : Value → Shared → Prop} {s : Shared}
theorem fm_congr {α β : Type} {f g : α → Option β} : ∀ l : List α, (∀ x ∈ l, f x = g x) → l.filterMap f = l.filterMap g
  | [], _ => rfl
  | x :: l, h => by rw [List.filterMap_cons, List.filterMap_cons, h x List.mem_cons_self, fm_congr l fun y hy => h y (List.mem_cons_of_mem _ hy)]
theorem rev_range (n : Nat) (xs : Array Value) (hn : xs.size = n) : ((List.range n).filterMap fun (k : Nat) => xs[(((n : Int) - 1) + (k : Int) * (-1)).toNat]?) = xs.toList.reverse := by
  subst hn
  have e : (List.range xs.size).filterMap (fun (k : Nat) => xs[(((xs.size : Int) - 1) + (k : Int) * (-1)).toNat]?) = ((List.range xs.size).map fun k => xs.size - 1 - k).filterMap (xs[·]?) := by
    rw [List.filterMap_map]
    refine fm_congr _ fun k hk => ?_
    have := List.mem_range.mp hk
    have z : (((xs.size : Int) - 1) + (k : Int) * (-1)).toNat = xs.size - 1 - k := by omega
    rw [z]
    rfl
  rw [e, PySem.W.krv_range, List.filterMap_reverse, PySem.W.krv_all]
theorem places_rev (n : Nat) : Builtin.Slice.slicePlaces ((n : Int) - 1) (-1) (-1) = n := by
  unfold Builtin.Slice.slicePlaces
  have h1 : ¬ ((-1 : Int) > 0) := by decide
  simp only [h1, if_false]
  rw [show (-(-1) : Int) = 1 by decide, Int.ediv_one]
  split <;> omega
theorem sliceApplied_rev {sl : Addr} {vs : Value} {n : Nat} {Q : Int × Int × Nat → Shared → Prop} (hs : s.heap.IsSliceOf sl .none .none vs) (pv : IsPart vs (some (-1)))
    (h : Q ((n : Int) - 1, -1, n) s) : wpAny (model prog w) A (Builtin.Slice.sliceApplied (.ref sl) (pure (n : Int))) Q E s := by
  obtain ⟨os, hos, hcs, hds⟩ := id hs
  unfold Builtin.Slice.sliceApplied Builtin.Slice.sliceFields
  refine wpAny_bind (wpAny_bind (wpAny_field hos hds (x := .none) rfl (wpAny_bind (wpAny_field hos hds (x := .none) rfl (wpAny_bind (wpAny_field hos hds (x := vs) rfl (wpAny_pure ?_)))))))
  refine wpAny_bind (HT.slicePart_ pv ?_)
  show wpAny _ _ (if ((-1 : Int) == 0) = true then _ else _) _ _ s
  rw [if_neg (by decide)]
  refine wpAny_bind (HT.slicePart_ .none (wpAny_bind (HT.slicePart_ .none (wpAny_bind (wpAny_pure ?_)))))
  show wpAny _ _ (pure (((n : Int) - 1), (-1 : Int), Builtin.Slice.slicePlaces ((n : Int) - 1) (-1) (-1))) _ _ s
  rw [places_rev]
  exact wpAny_pure h
theorem getItem_tuple_rev {t sl : Addr} {items : Array Value} {vs : Value} {Q : Value → Shared → Prop} (ht : IsTup s.heap t items) (hs : s.heap.IsSliceOf sl .none .none vs) (pv : IsPart vs (some (-1)))
    (h : Q (.ref s.heap.objs.size) { s with heap := s.heap.push { cls := .type "tuple", data := .seq items.toList.reverse.toArray } })
    (hsz : items.size ≤ sizeLine) : wpAny (model prog w) A (getItem (.ref t) (.ref sl)) Q E s := by
  have htake : sizeOk (.seq items.toList.reverse.toArray) := by
    show items.toList.reverse.toArray.size ≤ sizeLine
    rw [List.size_toArray, List.length_reverse, Array.length_toList]
    exact hsz
  obtain ⟨os, hos, hcs, hds⟩ := id hs
  have hTs : s.TypeIs (.ref sl) "slice" := ⟨os, hos, hcs⟩
  unfold getItem
  try with_reducible refine wpAny_holding ?_
  first | refine wpAny_bind (wpAny_pure ?_) | skip
  refine wpAny_bind (wpAny_sequenceKey ht.typeIs (by decide) ?_)
  refine wpAny_bind (wpAny_callSpecial?_slot (name := Str.ofString "__getitem__") ht.typeIs PyProof.Rows.slot_tuple_getitem
    (wpAny_call_entry PyProof.Rows.slot_tuple_getitem ht.typeIs entry_tuple_getitem ?_ (args_tuple_getitem _ _)))
  show wpAny _ _ (Builtin.Tuple.tupleItemsOf (.ref t) >>= _) _ _ s
  refine wpAny_bind (tupleItemsOf_ ht ?_)
  refine wpAny_bind (wpAny_typeOf hTs ?_)
  rw [if_pos (by decide)]
  refine wpAny_bind (sliceApplied_rev hs pv ?_)
  have hno : ¬ ((((items.size : Int) - 1) == 0 && (-1 : Int) == 1 && items.size == items.size) = true) := by
    intro q
    rw [Bool.and_eq_true, Bool.and_eq_true] at q
    exact absurd q.1.2 (by decide)
  show wpAny _ _ (if (((items.size : Int) - 1) == 0 && (-1 : Int) == 1 && items.size == items.size) = true then _ else _) _ _ s
  rw [if_neg hno, rev_range _ items rfl]
  first
    | exact wpAny_bind (m := Builtin.Tuple.tupleExact _) (wpAny_newObj_type (wpAny_pure ⟨_, rfl, wpAny_pure h⟩) htake)
    | exact wpAny_bind (m := Builtin.Tuple.tupleExact _) (wpAny_newObj_type (wpAny_bind (wpAny_pure (wpAny_pure ⟨_, rfl, wpAny_pure h⟩))) htake)
end
def revF : F1 := fun x h => match x with
  | .tup ds => .ok (.tup ds.reverse) h
  | .ref i => match lstD (.ref i) h with
    | some ds => newM (.lst 0 ds.reverse) h
    | none => .err
  | _ => .err
theorem RepAll.rev {K : PySem.W.Frag} {H : Hp} {μ : Nat → Addr} {n : Nat} : ∀ {ds : List D} {vs : List V}, RepAll K H μ n ds vs → RepAll K H μ n ds.reverse vs.reverse
  | [], _, h => by cases h; exact .nil
  | _ :: _, _, h => by
    cases h with
    | cons a b =>
      rw [List.reverse_cons, List.reverse_cons]
      exact (RepAll.rev b).append (.cons a .nil)
section
variable {X : Cx} {e : Expr} {m : ME} {k : Nat} {p1 p2 p3 p4 pos : Pos}
theorem ie_rev (he : ImplE X e m) : ImplE X (.Subscript e (.Slice none none (some (.UnaryOp .USub (.Constant (.int 1) k p1) p2)) p3) pos) (mUn revF m) := by
  intro env h σ H μ Q hr er br
  intro pins s I
  refine Subscript_ (thn (he env h σ H μ _ hr er (BR.bind (rp := rpD X.K) hr br) pins s I) fun v s1 ⟨x, H1, I1, r1, d, μ1, h1, po, rd, br1⟩ => ?_)
  have hst : PO X (some (.UnaryOp .USub (.Constant (.int 1) k p1) p2)) (tPart (tUn (rU fun i => .int (-i)) (tC (.int 1)))) := po_some (pe_un un_neg pe_int)
  refine wpAny_Slice ?_
  rw [evalPart_none]
  refine wpAny_pure ?_
  refine wpAny_pure ?_
  refine thn (hst.run pins s1 σ H1 (fun o H4 => o = some (-1) ∧ H4 = H1) I1 ⟨1, rfl, -1, rfl, rfl, rfl⟩) fun vs s4 ⟨o, H4, I4, ps, eo, e4⟩ => ?_
  subst eo e4
  have I5 : Inv X pins σ H4 { s4 with heap := s4.heap.push { cls := .type "slice", data := .fields #[.none, .none, vs] } } := I4.kept (t' := s4.toks) fun b ob q => Heap.get?_push_of_some _ q
  have sl := Heap.IsSliceOf.new s4.heap .none .none vs
  show wpAny (model X.prog X.w) X.A (subscriptTail e (.Slice none none (some (.UnaryOp .USub (.Constant (.int 1) k p1) p2)) p3) v (.ref s4.heap.objs.size)) (EP X pins σ Q) X.xe { s4 with heap := s4.heap.push { cls := .type "slice", data := .fields #[.none, .none, vs] } }
  unfold revF at br1
  split at br1
  · rename_i ds
    cases rd with
    | @tup a ws _ st ra =>
      cases r1
      obtain ⟨its, r, ht, hz⟩ := I5.tuple st.sq
      refine tail_any (ops := [.ref a, .ref s4.heap.objs.size]) ht.typeIs (PyProof.Rows.slot_tuple_getitem.lookup) ?_ (by with_unfolding_all rfl)
      refine getItem_tuple_rev ht sl ps ?_ (by rw [List.size_toArray, ← r.length]; exact hz)
      exact tupEnd (K := X.K) (n := 0) (t' := s4.toks) I5 (fun b u e => Heap.get?_push_of_some _ e) (Nat.le_refl _) (Heap.get?_push_size _ rfl) rfl rfl rfl r.reverse (by rw [List.length_reverse]; exact hz) po.rep ra.rev br1
  · split at br1
    · rename_i ds q
      obtain ⟨a, ws, rfl, sq, ra⟩ := lstD_of po.rep rd q
      cases r1
      obtain ⟨its, r, ht, hz⟩ := I5.list sq
      have hlen := r.length
      refine tail_any (ops := [.ref a, .ref s4.heap.objs.size]) ht.isList.typeIs (PySem.slot_list_getitem.lookup) ?_ (by with_unfolding_all rfl)
      refine wpAny_getItem_list_slice ht.isList sl .none .none ps (by decide) ?_ (by rw [List.size_toArray]; omega)
      rw [PySem.W.krv_pick]
      refine ⟨.ref _, _, I5.laid (t' := s4.toks) (o := .lst ws.reverse) (fun b ob q => Heap.get?_push_of_some _ q) (Nat.le_refl _) ?_, rfl, newLst po.rep ra.rev (I5.hok.fresh (Nat.le_refl _)) br1⟩
      exact ⟨by rw [List.length_reverse]; exact hz, _, 0, r.reverse, Heap.get?_push_size _ rfl⟩
    · exact False.elim br1
  · exact False.elim br1
end

open PySem.StrLaws Builtin Builtin.Str in
theorem occ_one (x : Str) (c : Nat) : ∀ (m k : Nat) (acc : Array Nat) (free : Nat), free ≤ k → acc.size ≤ k → k + m = x.length + 1 →
    ((forIn (List.range' k m) (acc, free) (occBody x ⟨#[c]⟩ x.length (x.length + 1))).run.fst.toList).length = acc.size + (x.cps.toList.drop k).count c
  | 0, k, acc, free, h1, h2, h3 => by
    have : x.cps.toList.drop k = [] := List.drop_eq_nil_of_le (by have : x.cps.toList.length = x.length := Array.length_toList; omega)
    rw [this]
    simp
  | m + 1, k, acc, free, h1, h2, h3 => by
    rw [List.range'_succ, List.forIn_cons]
    unfold occBody
    have lx : x.cps.toList.length = x.length := Array.length_toList
    have sb := subAt_one x c k
    by_cases hc : x.cps.toList[k]? = some c
    · obtain ⟨q1, q2⟩ := sb.mpr hc
      have l1 : (⟨#[c]⟩ : Str).length = 1 := rfl
      rw [if_pos ⟨⟨⟨by show acc.size < _; omega, h1⟩, q1⟩, q2⟩]
      have ih := occ_one x c m (k + 1) (acc.push k) (k + (⟨#[c]⟩ : Str).length) (by rw [l1]; exact Nat.le_refl _) (by rw [Array.size_push]; omega) (by omega)
      refine ih.trans ?_
      obtain ⟨hlt, hge⟩ := List.getElem?_eq_some_iff.mp hc
      rw [Array.size_push, List.drop_eq_getElem_cons hlt, hge, List.count_cons_self]
      omega
    · have ng : ¬ ((((acc, free).fst.size < x.length + 1 ∧ (acc, free).snd ≤ k) ∧ k + (⟨#[c]⟩ : Str).length ≤ x.length) ∧ subAt x ⟨#[c]⟩ k = true) := fun q => hc (sb.mp ⟨q.1.2, q.2⟩)
      rw [if_neg ng]
      have ih := occ_one x c m (k + 1) acc free (by omega) (by omega) (by omega)
      refine ih.trans ?_
      by_cases hlt : k < x.cps.toList.length
      · rw [List.drop_eq_getElem_cons hlt, List.count_cons_of_ne]
        intro e
        exact hc (by rw [List.getElem?_eq_getElem hlt, e])
      · rw [List.drop_eq_nil_of_le (by omega), List.drop_eq_nil_of_le (by omega)]
theorem count_one (x : Str) (c : Nat) : Txt.count x ⟨#[c]⟩ = ((x.cps.toList.count c : Nat) : Int) := by
  unfold Txt.count
  rw [PySem.StrLaws.occ_eq, occ_one x c _ 0 #[] 0 (Nat.le_refl _) (Nat.le_refl _) (by omega)]
  simp
mutual
def D.nodes : D → Nat
  | .tup ds => 1 + D.nodess ds
  | _ => 0
def D.nodess : List D → Nat
  | [] => 0
  | d :: ds => D.nodes d + D.nodess ds
end
/-- how many ( -/
def pars (x : Str) : Nat := x.cps.toList.count 40
theorem pars_app (x y : Str) : pars (x ++ y) = pars x + pars y := by
  show ((x.cps ++ y.cps).toList).count 40 = _
  rw [Array.toList_append, List.count_append] <;> rfl
theorem len_app (x y : Str) : (x ++ y).length = x.length + y.length := by
  show (x.cps ++ y.cps).size = _
  rw [Array.size_append] <;> rfl
theorem join_pars : ∀ ts : List Str, pars (Str.join ", " ts) = (ts.map pars).sum ∧ (Str.join ", " ts).length + (if ts = [] then 0 else 2) = (ts.map Str.length).sum + 2 * ts.length
  | [] => ⟨rfl, rfl⟩
  | [x] => ⟨by simp [Str.join], by simp [Str.join]⟩
  | x :: y :: r => by
    obtain ⟨a, b⟩ := join_pars (y :: r)
    have e : Str.join ", " (x :: y :: r) = x ++ ", " ++ Str.join ", " (y :: r) := rfl
    have p2 : pars ((", " : String) : Str) = 0 := by decide +kernel
    have l2 : (((", " : String) : Str)).length = 2 := by decide +kernel
    rw [if_neg (by simp)] at b
    refine ⟨?_, ?_⟩
    · rw [e, pars_app, pars_app, a, p2]
      simp
    · rw [e, len_app, len_app, l2, if_neg (by simp)]
      simp only [List.map_cons, List.sum_cons, List.length_cons] at b ⊢
      omega
theorem tupleText_pars (ts : List Str) : pars (tupleText ts) = 1 + (ts.map pars).sum ∧ (tupleText ts).length ≤ (ts.map Str.length).sum + 2 * ts.length + 2 := by
  obtain ⟨a, b⟩ := join_pars ts
  have p1 : pars (("(" : String) : Str) = 1 := by decide +kernel
  have l1 : ((("(" : String) : Str)).length = 1 := by decide +kernel
  have p2 : pars ((",)" : String) : Str) = 0 := by decide +kernel
  have l2 : (((",)" : String) : Str)).length = 2 := by decide +kernel
  have p3 : pars ((")" : String) : Str) = 0 := by decide +kernel
  have l3 : (((")" : String) : Str)).length = 1 := by decide +kernel
  match ts, a, b with
  | [], a, b =>
    have e : tupleText [] = (("(" : String) : Str) ++ Str.join ", " [] ++ ((")" : String) : Str) := rfl
    rw [e, pars_app, pars_app, len_app, len_app, a, p1, p3, l1, l3]
    simp only [if_true, List.map_nil, List.sum_nil, List.length_nil] at b ⊢
    omega
  | [x], a, b =>
    have e : tupleText [x] = (("(" : String) : Str) ++ Str.join ", " [x] ++ ((",)" : String) : Str) := rfl
    rw [e, pars_app, pars_app, len_app, len_app, a, p1, p2, l1, l2]
    rw [if_neg (by simp)] at b
    simp only [List.length_cons, List.length_nil] at b ⊢
    omega
  | x :: y :: r, a, b =>
    have e : tupleText (x :: y :: r) = (("(" : String) : Str) ++ Str.join ", " (x :: y :: r) ++ ((")" : String) : Str) := by
      show _ ++ _ ++ Str.ofString (if ((x :: y :: r).length == 1) = true then ",)" else ")") = _
      rw [if_neg (by simp)]
    rw [e, pars_app, pars_app, len_app, len_app, a, p1, p3, l1, l3]
    rw [if_neg (by simp)] at b
    simp only [List.length_cons] at b ⊢
    omega
mutual
theorem shown_pars : ∀ d : D, d.tree = true → pars d.dat.shown = d.nodes ∧ d.dat.shown.length + 2 ≤ 4 * d.nodes ∧ d.dat.showable = true ∧ d.dat.hasDict = false
  | .tup ds, h => by
    obtain ⟨a, b, c, e⟩ := showns_pars ds (by simpa [D.tree] using h)
    obtain ⟨p, q⟩ := tupleText_pars (PyData.shownAll (D.dats ds))
    refine ⟨?_, ?_, ?_, ?_⟩
    · show pars (tupleText (PyData.shownAll (D.dats ds))) = _
      rw [p, a, D.nodes]
    · show (tupleText (PyData.shownAll (D.dats ds))).length + 2 ≤ _
      rw [D.nodes]
      omega
    · simpa [D.dat, PyData.showable] using c
    · simpa [D.dat, PyData.hasDict] using e
  | .non, h => by simp [D.tree] at h
  | .bl _, h => by simp [D.tree] at h
  | .int _, h => by simp [D.tree] at h
  | .str _, h => by simp [D.tree] at h
  | .ref _, h => by simp [D.tree] at h
theorem showns_pars : ∀ ds : List D, D.trees ds = true → ((PyData.shownAll (D.dats ds)).map pars).sum = D.nodess ds ∧ ((PyData.shownAll (D.dats ds)).map Str.length).sum + 2 * (PyData.shownAll (D.dats ds)).length ≤ 4 * D.nodess ds ∧ PyData.showableAll (D.dats ds) = true ∧ PyData.hasDictAll (D.dats ds) = false
  | [], h => ⟨rfl, Nat.le_refl _, rfl, rfl⟩
  | d :: ds, h => by
    simp only [D.trees, Bool.and_eq_true] at h
    obtain ⟨a1, b1, c1, e1⟩ := shown_pars d h.1
    obtain ⟨a, b, c, e⟩ := showns_pars ds h.2
    refine ⟨?_, ?_, ?_, ?_⟩
    · simp only [D.dats, PyData.shownAll, List.map_cons, List.sum_cons, D.nodess]
      rw [a1, a]
    · simp only [D.dats, PyData.shownAll, List.map_cons, List.sum_cons, D.nodess, List.length_cons]
      omega
    · simp [D.dats, PyData.showableAll, c1, c]
    · simp [D.dats, PyData.hasDictAll, e1, e]
end
def strF : F1 := fun d h => bif d.tree && (d.low 40 && Nat.ble d.nodes 1000) then .ok (.int (d.nodes : Int)) h else .err
section
variable {X : Cx} {e : Expr} {m : ME} {x : Str} {k : Nat} {p p2 p3 p4 pos : Pos}
theorem call_strD (hu : X.A.units + 64 < cLine) (hg : X.A.guards = some []) : CallR X (.type "str") (fun vs H Q => ∃ d v h μ, vs = [v] ∧ Rep X.K H μ h d v ∧ d.tree = true ∧ d.low 40 = true ∧ d.nodes ≤ 1000 ∧ Q (.str d.dat.shown) H) := by
  intro pins s σ H vs us Q I rv ⟨d, v, h, μ, ev, r, ht, hl, hn, q⟩
  subst ev
  obtain ⟨u, rfl, ru⟩ := vals1 rv
  have pu := (tree_ok d ht).1
  obtain ⟨as, rd⟩ := Dp.reads I _ _ _ (rep_dp _ _ r (pur_flat pu)) ru
  cases d with
  | tup ds =>
    cases r with
    | @tup a ws _ st ra =>
      cases ru
      obtain ⟨z1, z2, z3, z4⟩ := shown_pars _ ht
      have := low_dat 40 _ hl
      refine str_of_reads rd z3 (fun y => by rw [z4] at y; cases y) hg (by omega) (fun b o e => e) (fun h' u tk k2 => ?_) (by rw [sizeLine_eq]; omega)
      exact ⟨.str _, H, I.kept (t' := tk) k2, ⟨u, rfl⟩, q⟩
  | _ => simp [D.tree] at ht
theorem ie_strc (hu : X.A.units + 64 < cLine) (hgd : X.A.guards = some []) (hm : X.mg "str" = none) (he : ImplE X e m) (hg : Gl X "str" := by rfl)
    (h1 : starEach [e] X.env = (false, eval e X.env) :: starEach [] X.env := by rfl) (h2 : (backTo p3 (starEach [] X.env)).any (·.1) = false := by rfl)
    (hbase : attributeBase (.Call (.Name "str" p) [e] [] p3) "count" X.env (eval (.Call (.Name "str" p) [e] [] p3) X.env) = eval (.Call (.Name "str" p) [e] [] p3) X.env := by rfl)
    (hline : (p2.endLine == pos.line) = true := by rfl)
    (hs : starEach [Expr.Constant (.str "(") k p4] X.env = (false, eval (.Constant (.str "(") k p4) X.env) :: starEach [] X.env := by rfl) (hplain : (backTo pos (starEach [] X.env)).any (·.1) = false := by rfl)
    (hfew : ((backTo pos (starEach [Expr.Constant (.str "(") k p4] X.env)).all (fun x => !x.1) && (backToKw pos (keywordEach [] X.env)).all (fun x => x.1.isSome)
      && decide ([Expr.Constant (.str "(") k p4].length + ([] : List Keyword).length + (if ([] : List Keyword).isEmpty then 0 else 1) < 30)) = true := by rfl) :
    ImplE X (.Call (.Attribute (.Call (.Name "str" p) [e] [] p3) "count" p2) [.Constant (.str "(") k p4] [] pos) (mUn strF m) := by
  intro env h σ H μ Q hr er br
  have pa1 : PA X [e] (mxA X [e]) := paX
  have ps : PE X (.Constant (.str "(") k p4) _ := pe_str
  refine mxE.of (pe_bm F.plainAttrs_str F.slot_str_count F.type_str_count mt_count (pe_callTy (call_strD hu hgd) hg hm (by decide +kernel) (pa_cons peX pa_nil h1) (by decide) (by decide) h1 h2) (pa_cons ps pa_nil hs) hbase hfew hline hs hplain) ?_
  refine he.seq hr er br fun v H1 d μ1 h1 hr1 er1 p1 r1 br1 => ?_
  unfold strF at br1
  obtain ⟨lk, br1⟩ := bif_all br1
  rw [Bool.and_eq_true, Bool.and_eq_true] at lk
  refine ⟨d, v, _, μ1, rfl, r1, lk.1, lk.2.1, Nat.ble_eq.mp lk.2.2, rfl, _, _, rfl, rfl, ?_⟩
  have e1 : Txt.count d.dat.shown "(" = (d.nodes : Int) := by
    rw [← (shown_pars d lk.1).1]
    exact count_one d.dat.shown 40
  rw [e1]
  exact br1.pure hr1 (.int _)
end
end Mi
set_option Elab.async false
set_option linter.all false
set_option autoImplicit false
set_option maxRecDepth 100000
set_option maxHeartbeats 1600000
namespace Mi
open PySem PySem.Spec PyProof.Rows L2 Mset
open PySem.W (EachIs)

theorem args_sum2 (a b : Value) : argsOk "sum" ⟨[a, b], []⟩ := by unfold argsOk; kernel_rfl
section
variable {prog : Program} {w : World} {A : Around} {R : Result → Shared → Prop} {I : Addr} {fp wr : List Addr} {n : Nat} {P : Nat → Value → Prop} {St : Nat → Heap → Prop}
/-- the lists that are walked, ahead of the walk -/
def LsAt (h : Heap) (v : Value) (xs : List Value) : Prop := ∃ b n2, v = .ref b ∧ h.get? b = some { cls := .type "list", dict := none, data := .seq xs.toArray n2, slots := #[] }
theorem sumL_loop {h0 : Heap} {val : Nat → List Value} (W : Walks prog w A.in1 I fp wr n P St) (hval : ∀ i v, P i v → i < n → LsAt h0 v (val i)) (htot : ((List.range n).map fun i => (val i).length).sum ≤ sizeLine) (hwr : ∀ b o, h0.get? b = some o → b ∉ wr) (S : Addr) (hSf : S ∉ fp) (hS0 : h0.get? S = none) (hlive : ∀ i h, St i h → ∀ b ∈ wr, b < h.objs.size) :
    ∀ (k i : Nat) (s : Shared) (T : Addr) (c c2 : Nat), n - i = k → i ≤ n → St i s.heap → (∀ b o, h0.get? b = some o → s.heap.get? b = some o) → T ≠ S → T ∉ wr →
    s.heap.get? S = some { cls := .type "list", dict := none, data := .seq #[.ref T] c, slots := #[] } →
    s.heap.get? T = some { cls := .type "list", dict := none, data := .seq ((List.range i).flatMap val).toArray c2, slots := #[] } → (i ≠ 0 → h0.get? T = none) →
    (∀ h' tk T' c', (∀ b o, h0.get? b = some o → h'.get? b = some o) → h'.get? T' = some { cls := .type "list", dict := none, data := .seq ((List.range n).flatMap val).toArray c', slots := #[] } → (n = 0 → T' = T) → (n ≠ 0 → h0.get? T' = none) → R (.ok (.ret (.ref T'))) { s with heap := h', toks := tk }) →
    codeAny (model prog w) A (.builtin "sum.loop" ⟨[.ref I, .ref S, rawInt 2, rawInt 0], []⟩) R s := by
  have hSw : S ∉ wr := fun h => hSf (W.sub _ h)
  intro k
  induction k with
  | zero =>
    intro i s T c c2 hk hi hst hkeep hTS hTw hS hT h01 hR
    have hin : i = n := by omega
    subst hin
    refine codeAny_builtin F.entry_sum_loop ?_
    rw [Around.under_plainId F.plain_sum_loop _]
    show wpAny _ A.in1 (seqItems? (.ref S) >>= _) _ _ s
    refine wpAny_bind (wpAny_seqItems hS rfl ?_)
    show wpAny _ A.in1 (tryCatch (pyNext (.ref I)) _ >>= _) _ _ s
    refine wpAny_bind (wpAny_tryCatch (W.done s _ _ hst fun h' tk hk' => ?_))
    exact wpAny_pure (hR h' tk T c2 (fun b o e => hk' b o (hwr b o e) (hkeep b o e)) (hk' T _ hTw hT) (fun _ => rfl) h01)
  | succ k ih =>
    intro i s T c c2 hk hi hst hkeep hTS hTw hS hT h01 hR
    have hlt : i < n := by omega
    refine codeAny_builtin F.entry_sum_loop ?_
    rw [Around.under_plainId F.plain_sum_loop _]
    show wpAny _ A.in1 (seqItems? (.ref S) >>= _) _ _ s
    refine wpAny_bind (wpAny_seqItems hS rfl ?_)
    show wpAny _ A.in1 (tryCatch (pyNext (.ref I)) _ >>= _) _ _ s
    refine wpAny_bind (wpAny_tryCatch (W.item i s _ _ hlt hst fun v h' tk hP hst' hk' => ?_))
    obtain ⟨b, n2, rfl, hb0⟩ := hval i v hP hlt
    have hb := hk' b _ (hwr b _ hb0) (hkeep b _ hb0)
    have hS' := hk' S _ hSw hS
    have hT' := hk' T _ hTw hT
    have keep' : ∀ b o, h0.get? b = some o → h'.get? b = some o := fun b o e => hk' b o (hwr b o e) (hkeep b o e)
    have szle : ∀ j, j ≤ n → ((List.range j).flatMap val).length ≤ sizeLine := fun j hj => by
      rw [List.length_flatMap]
      refine Nat.le_trans ?_ htot
      have e : List.range n = List.range j ++ (List.range (n - j)).map (fun x => j + x) := by rw [← List.range_add]; congr 1; omega
      rw [e, List.map_append, List.sum_append]
      exact Nat.le_add_right _ _
    have step : (List.range (i + 1)).flatMap val = (List.range i).flatMap val ++ val i := by rw [List.range_succ, List.flatMap_append]; simp
    have ea : ((List.range i).flatMap val).toArray ++ (val i).toArray = ((List.range (i + 1)).flatMap val).toArray := by rw [step]; simp
    show wpAny _ A.in1 ((holding [Value.ref b] (binaryOp .Add (.ref T) (.ref b))).attempt >>= _) _ _ _
    refine wpAny_bind (wpAny_attempt (wpAny_holding (PySem.P.add_list (s := { s with heap := h', toks := tk }) hT' hb ?_ (by
      have := szle (i + 1) hlt
      rw [step, List.length_append] at this
      rw [List.size_toArray, List.size_toArray]
      exact this))))
    rw [ea]
    have pS : (h'.push { cls := .type "list", data := .seq ((List.range (i + 1)).flatMap val).toArray }).get? S = _ := Heap.get?_push_of_some _ hS'
    show wpAny _ A.in1 (updateSeq S (fun _ => #[.ref h'.objs.size]) >>= _) _ _ _
    refine wpAny_bind ?_
    refine wpAny_updateSeq pS rfl ?_
    have hS2 := Heap.get?_update_self (Obj.mapSeq fun _ => #[Value.ref h'.objs.size]) pS rfl
    refine wpAny_bind (wpAny_letGo ?_)
    show wpAny _ A.in1 (updateSeq S (fun _ => #[.ref h'.objs.size]) >>= _) _ _ _
    refine wpAny_bind ?_
    have hSs : S < h'.objs.size := Heap.lt_size hS'
    have up : ∀ b o, b ≠ S → h'.get? b = some o → (((h'.push { cls := .type "list", data := .seq ((List.range (i + 1)).flatMap val).toArray }).update S (Obj.mapSeq fun _ => #[Value.ref h'.objs.size])).update S (Obj.mapSeq fun _ => #[Value.ref h'.objs.size])).get? b = some o := fun b o hb e =>
      (Heap.get?_update_other _ _ (Ne.symm hb)).trans ((Heap.get?_update_other _ _ (Ne.symm hb)).trans (Heap.get?_push_of_some _ e))
    have wl' : ∀ b ∈ wr, b < h'.objs.size := hlive _ _ hst'
    have hT2 := up h'.objs.size
    have fr : h0.get? h'.objs.size = none := by
      cases q : h0.get? h'.objs.size with
      | none => rfl
      | some o => exact absurd (Heap.lt_size (keep' _ _ q)) (Nat.lt_irrefl _)
    have tn : (((h'.push { cls := .type "list", data := .seq ((List.range (i + 1)).flatMap val).toArray }).update S (Obj.mapSeq fun _ => #[Value.ref h'.objs.size])).update S (Obj.mapSeq fun _ => #[Value.ref h'.objs.size])).get? h'.objs.size = some { cls := .type "list", dict := none, data := .seq ((List.range (i + 1)).flatMap val).toArray 0, slots := #[] } :=
      (Heap.get?_update_other _ _ (Nat.ne_of_lt hSs)).trans ((Heap.get?_update_other _ _ (Nat.ne_of_lt hSs)).trans (Heap.get?_push_size _ rfl))
    refine wpAny_updateSeq hS2 rfl (wpAny_pure ⟨plainId_quiet F.plain_sum_loop _, ih (i + 1) { s with heap := _, toks := tk } h'.objs.size _ 0 (by omega) hlt (W.frame _ _ _ hst' fun b hb o e => up b o (fun h => hSf (by rw [← h]; exact hb)) e) (fun b o e => up b o (fun h => by rw [h, hS0] at e; cases e) (keep' b o e)) (Nat.ne_of_gt hSs)
      (fun h => Nat.lt_irrefl _ (wl' _ h)) (Heap.get?_update_self _ hS2 rfl) tn (fun _ => fr) fun h'' tk'' T'' c'' hk'' e1 e2 e3 => ?_⟩)
    exact hR h'' tk'' T'' c'' hk'' e1 (fun z => absurd hlt (by omega)) e3
end
section
variable {prog : Program} {w : World} {A : Around} {E : Value → Shared → Prop} {s : Shared}
theorem call_sumL {a p : Addr} {refs : List Value} {val : Nat → List Value} {Q : Value → Shared → Prop} {np : Nat} (hh : A.handled = none) (hl : s.heap.IsList a refs.toArray) (hp : s.heap.get? p = some { cls := .type "list", dict := none, data := .seq #[] np, slots := #[] })
    (hval : ∀ i v, refs[i]? = some v → LsAt s.heap v (val i)) (htot : ((List.range refs.length).map fun i => (val i).length).sum ≤ sizeLine)
    (hR : ∀ h' tk T' c', (∀ b o, s.heap.get? b = some o → h'.get? b = some o) → h'.get? T' = some { cls := .type "list", dict := none, data := .seq ((List.range refs.length).flatMap val).toArray c', slots := #[] } → (refs.length = 0 → T' = p) → (refs.length ≠ 0 → s.heap.get? T' = none) → Q (.ref T') { s with heap := h', toks := tk }) :
    wpAny (model prog w) A (call (.builtin "sum") [.ref a, .ref p]) Q E s := by
  refine call_function_tree F.kind_sum F.plain_sum F.entry_sum (args_sum2 _ _) ?_
  unfold Builtin.«sum»
  simp only [List.length_cons, List.length_nil]
  rw [if_neg (by decide)]
  refine wpAny_bind (wpAny_of_eq (show Builtin.Builtins.bindParams "sum" ["start"] 0 ⟨[.ref p], []⟩ = pure [some (.ref p)] from rfl) ?_)
  have hap : ∀ {h' : Heap}, (∀ b o, s.heap.get? b = some o → h'.get? b = some o) → h'.get? p = some { cls := .type "list", dict := none, data := .seq #[] np, slots := #[] } := fun k => k p _ hp
  refine wpAny_bind (wpAny_pyIter_list hl ?_)
  refine wpAny_bind (wpAny_pure ?_)
  have tp : ∀ h' tk, h' = s.heap.push { cls := .type "list_iterator", data := .fields #[.ref a, .int 0 0] } → ({ s with heap := h', toks := tk } : Shared).TypeIs (.ref p) "list" := fun h' tk e => by subst e; exact ⟨_, Heap.get?_push_of_some _ hp, rfl⟩
  simp only [List.forIn_cons, List.forIn_nil]
  refine wpAny_bind (wpAny_bind (wpAny_bind (wpAny_isInstance (T := "list") (b := false) (tp _ s.toks rfl) (by rw [isSubtype_type]; kernel_rfl) ?_)))
  simp only [Bool.false_eq_true, if_false]
  refine wpAny_pure (wpAny_bind (wpAny_bind (wpAny_isInstance (T := "list") (b := false) (tp _ s.toks rfl) (by rw [isSubtype_type]; kernel_rfl) ?_)))
  simp only [Bool.false_eq_true, if_false]
  refine wpAny_pure (wpAny_bind (wpAny_bind (wpAny_isInstance (T := "list") (b := false) (tp _ s.toks rfl) (by rw [isSubtype_type]; kernel_rfl) ?_)))
  simp only [Bool.false_eq_true, if_false]
  refine wpAny_pure (wpAny_pure ?_)
  refine wpAny_bind (wpAny_newObj_type ?_)
  have ha : a < s.heap.objs.size := let ⟨o, e, _⟩ := hl; Heap.lt_size e
  have hps : p < s.heap.objs.size := Heap.lt_size hp
  have k1 : ∀ b o, s.heap.get? b = some o → ((s.heap.push { cls := .type "list_iterator", data := .fields #[.ref a, .int 0 0] }).push { cls := .type "list", data := .seq #[.ref p] }).get? b = some o := fun b o e => Heap.get?_push_of_some _ (Heap.get?_push_of_some _ e)
  have hS : (s.heap.push { cls := .type "list_iterator", data := .fields #[.ref a, .int 0 0] }).objs.size = s.heap.objs.size + 1 := Heap.size_push _ _
  have nS : s.heap.get? (s.heap.objs.size + 1) = none := by
    cases q : s.heap.get? (s.heap.objs.size + 1) with
    | none => rfl
    | some o => exact absurd (Heap.lt_size q) (Nat.not_lt.mpr (Nat.le_succ _))
  have W := Walks.list (prog := prog) (w := w) (A := A.in1) hh s.heap.objs.size a (Nat.ne_of_lt ha) refs.toArray
  refine wpAny_pure ⟨plainId_quiet F.plain_sum_loop _, sumL_loop (n := refs.toArray.size) (h0 := s.heap) (val := val) W (fun i v e _ => hval i v (by simpa using e)) (by simpa using htot) (fun b o e => ?_) _ ?_ (by rw [hS]; exact nS) (fun i h st b hb => ?_) refs.toArray.size 0 _ p _ np (Nat.sub_zero _) (Nat.zero_le _) ?_ k1 ?_ ?_ (Heap.get?_push_size _ rfl) (k1 _ _ hp) (fun z => absurd rfl z) fun h' tk T' c' kk e1 e2 e3 => ?_⟩
  · simp only [List.mem_singleton]
    exact Nat.ne_of_lt (Heap.lt_size e)
  · rw [hS]
    simp only [List.mem_cons, List.not_mem_nil, or_false, not_or]
    exact ⟨Nat.succ_ne_self _, Nat.ne_of_gt (Nat.lt_succ_of_lt ha)⟩
  · rw [List.mem_singleton.mp hb]
    obtain ⟨o, e, _⟩ := st.1
    exact Heap.lt_size e
  · refine ⟨⟨_, Heap.get?_push_of_some _ (Heap.get?_push_size _ rfl), rfl, rfl⟩, ?_⟩
    exact hl.at fun o e => k1 _ _ e
  · rw [hS]; exact Nat.ne_of_lt (Nat.lt_succ_of_lt hps)
  · simp only [List.mem_singleton]; exact Nat.ne_of_lt hps
  · exact hR h' tk T' c' kk (by simpa using e1) (fun z => e2 (by simpa using z)) (fun z => e3 (by simpa using z))
end
theorem range_pick {α : Type} (l : List (List α)) : (List.range l.length).map (fun i => (l[i]?).getD []) = l := by
  apply List.ext_getElem
  · simp
  · intro i h1 h2
    simp at h1
    simp [h1]
theorem paired_vals {X : Cx} {pins : List (Addr × Obj)} {σ : L2.St} {H : Hp} {s : Shared} (I : Inv X pins σ H s) : ∀ {rs : List V} {xss : List (List V)} {us : List Value}, Paired (fun v xs => ∃ b, v = V.ref b ∧ H b = some (.lst xs)) rs xss → Vals rs us →
    ∃ yss : List (List Value), yss.length = us.length ∧ (∀ (i : Nat) (v : Value), us[i]? = some v → LsAt s.heap v ((yss[i]?).getD [])) ∧ Vals xss.flatten yss.flatten
  | _, _, _, .nil, r => by
    cases r
    exact ⟨[], rfl, fun i v e => by simp at e, .nil⟩
  | _, _, _, .cons x t, r => by
    cases r with
    | cons r1 r2 =>
      obtain ⟨b, rfl, hb⟩ := x
      cases r1
      obtain ⟨yss, l, k, f⟩ := paired_vals I t r2
      obtain ⟨z, its, n, rr, hl, e⟩ := I.lstM hb
      refine ⟨its :: yss, by simp [l], fun i v q => ?_, ?_⟩
      · cases i with
        | zero =>
          simp at q
          subst q
          exact ⟨b, n, rfl, e⟩
        | succ i => simpa using k i v (by simpa using q)
      · rw [List.flatten_cons, List.flatten_cons]
        exact rr.append f
section
variable {X : Cx}
def rSumL (K : PySem.W.Frag) : List V → Hp → VK → Prop := fun vs H Q => ∃ (a p : Addr) (rs : List V) (xss : List (List V)), vs = [.ref a, .ref p] ∧ SqL K H a rs ∧ H p = some (.lst []) ∧ Paired (fun v xs => ∃ b, v = V.ref b ∧ H b = some (.lst xs)) rs xss ∧ xss.flatten.length ≤ sizeLine ∧
  (rs = [] → Q (.ref p) H) ∧ (rs ≠ [] → ∀ q, H q = none → Q (.ref q) (upd H q (.lst xss.flatten)))
theorem cr_sumL (hc : X.calm = true) : CallR X (.builtin "sum") (rSumL X.K) := by
  intro pins s σ H vs us Q I r h
  obtain ⟨a, p, rs, xss, rfl, hs, hp, pr, hz, q0, q1⟩ := h
  obtain ⟨its, rv, hl, _⟩ := I.list hs
  obtain ⟨u1, u2, rfl, s1, s2⟩ := vals2 r
  cases s1
  cases s2
  obtain ⟨yss, l, k, f⟩ := paired_vals I pr rv
  obtain ⟨z, ips, n, rr, hl2, e⟩ := I.lstM hp
  cases rr
  have lf := f.length
  have lr := rv.length
  refine call_sumL (I.ok.hd hc) hl.isList e (val := fun i => (yss[i]?).getD []) k ?_ fun h' tk T' c' kk e1 e2 e3 => ?_
  · have e4 : (List.range its.length).map (fun i => ((yss[i]?).getD []).length) = yss.map List.length := by
      rw [← l, show (List.range yss.length).map (fun i => ((yss[i]?).getD []).length) = ((List.range yss.length).map fun i => (yss[i]?).getD []).map List.length by rw [List.map_map]; rfl, range_pick]
    rw [e4, ← List.length_flatten, ← lf]
    exact hz
  · have e5 : (List.range its.length).flatMap (fun i => (yss[i]?).getD []) = yss.flatten := by
      rw [← l, List.flatMap_def, range_pick]
    by_cases h0 : rs = []
    · have hn : its.length = 0 := by rw [← lr, h0]; rfl
      have := e2 hn
      subst this
      exact ⟨.ref T', H, I.kept (t' := tk) kk, rfl, q0 h0⟩
    · have hn : its.length ≠ 0 := fun z => h0 (List.length_eq_zero_iff.mp (lr.trans z))
      have hT := e3 hn
      have hf : H T' = none := I.hok.gone hT
      rw [e5] at e1
      exact ⟨.ref T', _, I.laidN (t' := tk) (o := .lst xss.flatten) kk hT hf ⟨hz, _, _, f, e1⟩, rfl, q1 h0 T' hf⟩
end
/-- the lists in a row -/
def listsD (h : MH) : List D → Option (List (List D))
  | [] => some []
  | d :: ds => match ownD d h with
    | some (_, _, xs) => match listsD h ds with
      | some r => some (xs :: r)
      | none => none
    | none => none
theorem listsD_of {P : Program} {w : World} {K : PySem.W.Frag} {H : Hp} {μ : Nat → Addr} {h : MH} (hr : HRep P w K H μ h) : ∀ {ds : List D} {rs : List V} {xss : List (List D)}, RepAll K H μ h.n ds rs → listsD h ds = some xss →
    ∃ vss : List (List V), Paired (fun v xs => ∃ b, v = V.ref b ∧ H b = some (.lst xs)) rs vss ∧ RepAll K H μ h.n xss.flatten vss.flatten
  | [], _, xss, r, e => by
    cases r
    cases e
    exact ⟨[], .nil, .nil⟩
  | d :: ds, _, xss, r, e => by
    cases r with
    | cons r1 r2 =>
      rw [listsD] at e
      split at e
      · rename_i x1 x2 xs q
        split at e
        · rename_i r3 q2
          cases e
          obtain ⟨_, _, _, ev, vs, hH, rx⟩ := ownD_of hr r1 q
          obtain ⟨vss, a, b⟩ := listsD_of hr r2 q2
          refine ⟨vs :: vss, .cons ⟨_, ev, hH⟩ a, ?_⟩
          rw [List.flatten_cons, List.flatten_cons]
          exact rx.append b
        · cases e
      · cases e
def sumLF : F1 := fun d h => match lstD d h with
  | some ds => match listsD h ds with
    | some xss => bif lenOk xss.flatten then newM (.lst 0 xss.flatten) h else .err
    | none => .err
  | none => .err
section
variable {X : Cx} {e : Expr} {m : ME} {p p2 pos : Pos}
theorem ie_sumL (hc : X.calm = true) (hm : X.mg "sum" = none) (he : ImplE X e m) (hg : Gl X "sum" := by rfl)
    (h1 : starEach [e, .List [] p2] X.env = (false, eval e X.env) :: starEach [.List [] p2] X.env := by rfl) (h3 : starEach [Expr.List [] p2] X.env = (false, eval (.List [] p2) X.env) :: starEach [] X.env := by rfl)
    (h2 : (backTo pos (starEach [Expr.List [] p2] X.env)).any (·.1) = false := by rfl) : ImplE X (.Call (.Name "sum" p) [e, .List [] p2] [] pos) (mUn sumLF m) := by
  intro env h σ H μ Q hr er br
  refine mxE.of (pe_callB (cr_sumL hc) hg hm (by decide +kernel) (pa_cons peX (pa_cons (pe_lst pa_nil) pa_nil h3) h1) (by decide) (by decide) h1 h2) ?_
  refine he.seq hr er br fun v H1 d μ1 h1 hr1 er1 p1 r1 br1 => ?_
  refine ⟨Nat.zero_le _, fun q nq => ?_⟩
  unfold sumLF at br1
  split at br1
  · rename_i ds qd
    split at br1
    · rename_i xss qx
      obtain ⟨lk, br1⟩ := bif_all br1
      obtain ⟨a, rs, rfl, sq, ra⟩ := lstD_of hr1 r1 qd
      obtain ⟨vss, pr, rf⟩ := listsD_of hr1 ra qx
      have po : Post X.prog X.w X.K H1 μ1 h1 (upd H1 q (.lst [])) μ1 h1 := Post.newH hr1 nq
      have ne : ∀ {b : Addr} {o : HO}, H1 b = some o → b ≠ q := fun {b o} e z => by rw [z, nq] at e; cases e
      have sq' : SqL X.K (upd H1 q (.lst [])) a rs := by
        rcases sq with (sq | ⟨o, sq⟩) | sq
        · exact .inl (.inl (by rw [upd_ne (ne sq)]; exact sq))
        · exact .inl (.inr ⟨o, by rw [upd_ne (ne sq)]; exact sq⟩)
        · exact .inr sq
      refine ⟨a, q, rs, vss, rfl, sq', upd_same, Paired.mapP pr fun v xs ⟨b, e1, e2⟩ => ⟨b, e1, by rw [upd_ne (ne e2)]; exact e2⟩, by rw [← rf.length]; exact lenOk_line lk, fun z => ?_, fun z q2 n2 => ?_⟩
      · subst z
        cases pr
        have z0 : xss.flatten = [] := List.length_eq_zero_iff.mp rf.length
        rw [z0] at br1
        exact newLst hr1 .nil nq br1
      · refine newLst po.rep (po.rps hr1 rf) n2 (R.all_mono br1 fun c h2 q3 H2 μ2 b pp e2 => q3 H2 μ2 b (po.trans hr1 pp) e2)
    · exact False.elim br1
  · exact False.elim br1
end
end Mi
set_option Elab.async false
set_option linter.all false
set_option autoImplicit false
set_option maxRecDepth 100000
set_option maxHeartbeats 1600000
namespace Mi
open PySem PySem.Spec PyProof.Rows L2 Mset
open PySem.W (EachIs)

section
variable {prog : Program} {w : World} {A : Around} {E : Value → Shared → Prop} {s : Shared} {l : Addr} {its : List Value} {ns : List Int} {Q : Value → Shared → Prop}
theorem sum_tupG {xs : Array (Int × Tok)} (hh : A.handled = none) (hl : s.heap.IsTuple l (intItems xs))
    (h : ∀ h' tk t', (∀ b o, s.heap.get? b = some o → h'.get? b = some o) → Q (.int (preSum (numAt xs) xs.size) t') { s with heap := h', toks := tk }) :
    wpAny (model prog w) A (call (.builtin "sum") [.ref l]) Q E s := by
  have hlt : l < s.heap.objs.size := by obtain ⟨_, e, _⟩ := hl; exact Heap.lt_size e
  refine call_sum_walkG (wpAny_pyIter_tuple hl ⟨_, _, _, _, _, _, numAt xs, rfl, Walks.tuple (A := A.in1) hh _ l (Nat.ne_of_lt hlt) (intItems xs), ⟨⟨_, Heap.get?_push_size _ rfl, rfl, rfl⟩, hl.push _⟩, (fun b hb => ?_), (fun _ _ => intItems_at), fun h' tk t' hk => ?_⟩)
  · show b < (s.heap.push _).objs.size
    rw [Heap.size_push]
    rcases List.mem_cons.mp hb with rfl | hb
    · exact Nat.lt_succ_self _
    · rcases List.mem_cons.mp hb with rfl | hb
      · exact Nat.lt_succ_of_lt hlt
      · cases hb
  · have := h h' tk t' (fun b o e => hk b o (fun hb => absurd (Heap.lt_size e) ((List.mem_singleton.mp hb) ▸ Nat.lt_irrefl _)) (Heap.get?_push_of_some _ e))
    simpa [intItems] using this
theorem sum_tup (hh : A.handled = none) (hl : s.heap.IsTuple l its.toArray) (hi : IntsAre its ns)
    (h : ∀ h' tk t', (∀ b o, s.heap.get? b = some o → h'.get? b = some o) → Q (.int ns.sum t') { s with heap := h', toks := tk }) : wpAny (model prog w) A (call (.builtin "sum") [.ref l]) Q E s := by
  obtain ⟨xs, e⟩ := hi.allInts.items
  have hn : numsOf (intItems xs).toList = ns := by rw [← e]; exact hi.numsOf
  rw [nums_intItems] at hn
  rw [e] at hl
  refine sum_tupG hh hl fun h' tk t' hk => ?_
  have := h h' tk t' hk
  rw [preSum_eq, List.take_of_length_le (by simp), hn]; exact this
end
section
variable {X : Cx}
def sumF2 : F1 := fun d h => match seqD d h with
  | some ds => match intsD ds with
    | some ns => .ok (.int ns.sum) h
    | none => .err
  | none => .err
theorem call_sumD2 (hc : X.calm = true) : CallD X (.builtin "sum") (fa1 sumF2) := by
  refine callD1 fun pins s σ H v u Q I ru rv d h μ hr r1 br => ?_
  unfold sumF2 at br
  split at br
  · rename_i ds q
    split at br
    · rename_i ns q2
      obtain ⟨a, vs, rfl, sq, ra⟩ := seqD_of hr r1 q
      rw [intsD_of ra q2] at sq
      rcases sq with sq | sq
      · exact cr_sum hc pins s σ H _ _ Q I rv ⟨a, ns, rfl, sq, br.pure hr (.int _)⟩
      · obtain ⟨its, rvs, pl, _⟩ := I.tuple sq
        cases ru
        exact sum_tup (I.ok.hd hc) pl rvs.ints fun h' tk t' hk => ⟨.int _, H, I.kept hk, ⟨_, rfl⟩, br.pure hr (.int _)⟩
    · exact False.elim br
  · exact False.elim br
def maxF2 : F1 := fun d h => match seqD d h with
  | some ds => match intsD ds with
    | some ns => match maxL ns with
      | some m => .ok (.int m) h
      | none => .err
    | none => .err
  | none => .err
theorem foldMaxB : ∀ (xs : List Int) (x : Int), xs.foldl (fun a y => bif decide (a < y) then y else a) x = xs.foldl max x
  | [], _ => rfl
  | z :: xs, x => by
    rw [List.foldl_cons, List.foldl_cons, foldMaxB xs]
    congr 1
    by_cases q : x < z
    · simp [q]; omega
    · simp [q]; omega
theorem ints_dat {H : Hp} : ∀ ns : List Int, DpAll X.K H (ns.map V.int) (ns.map PyData.int)
  | [] => .nil
  | n :: ns => .cons (.int n) (ints_dat ns)
theorem ints_deep : ∀ ns : List Int, PyData.depthAll (ns.map PyData.int) = 0
  | [] => rfl
  | n :: ns => by rw [List.map_cons, PyData.depthAll, ints_deep ns]; rfl
theorem call_maxD2 (hc : X.calm = true) (hu : X.A.units + 70 < cLine) : CallD X (.builtin "max") (fa1 maxF2) := by
  refine callD1 fun pins s σ H v u Q I ru rv d h μ hr r1 br => ?_
  unfold maxF2 at br
  split at br
  · rename_i ds q
    split at br
    · rename_i ns q2
      split at br
      · rename_i m q3
        obtain ⟨a, vs, rfl, sq, ra⟩ := seqD_of hr r1 q
        rw [intsD_of ra q2] at sq
        rcases sq with sq | sq
        · cases ns with
          | nil => cases q3
          | cons x xs =>
            simp only [maxL, Option.some.injEq] at q3
            obtain ⟨m1, m2⟩ := foldMax (fun a b => decide (a < b)) (fun _ _ => rfl) xs x
            rw [q3] at m1 m2
            refine cr_max hc pins s σ H _ _ Q I rv ⟨a, x :: xs, rfl, sq, Nat.succ_pos _, fun k k1 k2 => ?_⟩
            have e : k = m := Int.le_antisymm (m2 k k1) (k2 m m1)
            rw [e]
            exact br.pure hr (.int _)
        · cases ns with
          | nil => cases q3
          | cons x xs =>
            simp only [maxL, Option.some.injEq] at q3
            rw [foldMaxB] at q3
            obtain ⟨its, rvs, pl, _⟩ := I.tuple sq
            cases ru
            obtain ⟨as, rs⟩ := Dp.readsAll I _ _ _ (ints_dat (x :: xs)) rvs
            have dl := ints_deep (x :: xs)
            have md := PySem.W.maxD_ints x xs
            refine PySem.W.max_tuple_data (I.ok.hd hc) pl (x := .int x) (xs := xs.map .int) (by simpa using rs) ⟨fun a ha b hb => ?_, fun a ha => ?_⟩ (by rw [List.map_cons] at dl; omega) fun i w h' tk bs hv rd kp => ?_
            · have ha' : a ∈ (x :: xs).map PyData.int := ha
              have hb' : b ∈ (x :: xs).map PyData.int := hb
              obtain ⟨i, _, rfl⟩ := List.mem_map.mp ha'
              obtain ⟨j, _, rfl⟩ := List.mem_map.mp hb'
              rfl
            · have ha' : a ∈ (x :: xs).map PyData.int := ha
              obtain ⟨i, _, rfl⟩ := List.mem_map.mp ha'
              exact fun z => nomatch z
            · rw [md, q3] at rd
              cases rd
              exact ⟨.int m, H, I.kept kp, ⟨_, rfl⟩, br.pure hr (.int _)⟩
      · exact False.elim br
    · exact False.elim br
  · exact False.elim br
end
end Mi
set_option Elab.async false
set_option linter.all false
set_option autoImplicit false
set_option maxRecDepth 100000
set_option maxHeartbeats 1600000
namespace Mi
open PySem PySem.Spec PyProof.Rows L2 Mset
open PySem.W (EachIs)

section
variable {K : PySem.W.Frag} {H : Hp} {μ μ' : Nat → Addr} {n n' : Nat}
mutual
theorem rep_any : ∀ (d : D) (v : V), d.flat = true → Rep K H μ n d v → Rep K H μ' n' d v
  | .non, _, _, h => by cases h; exact .non
  | .bl b, _, _, h => by cases h; exact .bl b
  | .int i, _, _, h => by cases h; exact .int i
  | .str x, _, _, h => by cases h; exact .str x
  | .tup ds, _, f, h => by
    cases h with
    | tup s r => exact .tup s (reps_any ds _ (by simpa [D.flat] using f) r)
  | .ref i, _, f, _ => by simp [D.flat] at f
theorem reps_any : ∀ (ds : List D) (vs : List V), D.flats ds = true → RepAll K H μ n ds vs → RepAll K H μ' n' ds vs
  | [], _, _, h => by cases h; exact .nil
  | d :: ds, _, f, h => by
    rw [D.flats, Bool.and_eq_true] at f
    cases h with
    | cons a b => exact .cons (rep_any d _ f.1 a) (reps_any ds _ f.2 b)
end
end

/-- every end of a run -/
def R.allB {α : Type} (p : α → MH → Bool) : R α → Bool
  | .ok a h => p a h
  | .err => false
  | .drw b k => (List.range b).all fun i => (k i).allB p
theorem allB_all {α : Type} {p : α → MH → Bool} : ∀ {r : R α}, r.allB p = true → r.all fun a h => p a h = true
  | .ok _ _, h => h
  | .err, h => by cases h
  | .drw b k, h => fun i hi => allB_all (List.all_eq_true.mp h i (List.mem_range.mpr hi))

section
variable {P : Program} {w : World} {K : PySem.W.Frag} {mg : Str → Option Value} {base : Heap} {H H' : Hp} {μ μ2 : Nat → Addr} {hh h1 h2 : MH} {k n b : Nat}
/-- the heap with nothing -/
theorem emp_rep : HRep P w K H μ MH.emp := ⟨fun i hi => absurd hi (Nat.not_lt_zero _), fun i j _ _ hi => absurd hi (Nat.not_lt_zero _), Nat.zero_le _⟩
/-- behind a run on nothing, the caller's heap stands as it stood -/
theorem Post.emp {μ1 : Nat → Addr} (hr : HRep P w K H μ hh) (p : Post P w K H μ1 MH.emp H' μ2 h2) : Post P w K H μ hh H' μ hh := by
  have no : ∀ a, ¬ Own MH.emp μ1 a := fun a ⟨i, _, hi, _⟩ => absurd hi (Nat.not_lt_zero _)
  have sq : ∀ a vs, TupN K H a vs → TupN K H' a vs := by
    intro a vs s
    rcases s with ⟨o, e, d⟩ | s
    · exact .inl ⟨o, p.ext a _ e (no a), d⟩
    · exact .inr s
  have rps : ∀ ds vs, RepAll K H μ hh.n ds vs → RepAll K H' μ hh.n ds vs := fun ds vs => RepAll.mono sq (fun _ _ => rfl) (Nat.le_refl _) ds vs
  have rp : ∀ d v, Rep K H μ hh.n d v → Rep K H' μ hh.n d v := fun d v => Rep.mono sq (fun _ _ => rfl) (Nat.le_refl _) d v
  refine ⟨⟨fun i hi => ?_, hr.inj, hr.cap⟩, fun a o e _ => p.ext a o e (no a), fun _ _ => rfl, Nat.le_refl _, fun i o x y => absurd (Nat.lt_of_lt_of_le y x) (Nat.lt_irrefl _), fun _ _ _ e _ => e, fun _ o _ e => ⟨o, e, rfl⟩⟩
  obtain ⟨o, e1, e2⟩ := hr.obj i hi
  refine ⟨o, e1, ?_⟩
  cases o with
  | lst lk ds => obtain ⟨vs, e3, e4⟩ := e2; exact ⟨vs, p.ext _ _ e3 (no _), rps _ _ e4⟩
  | frz ds =>
    obtain ⟨vs, e3, e4⟩ := e2
    refine ⟨vs, ?_, rps _ _ e4⟩
    rcases e3 with ⟨o, e3⟩ | e3
    · exact .inl ⟨o, p.ext _ _ e3 (no _)⟩
    · exact .inr e3
  | dct lk kvs =>
    obtain ⟨xs, e3, e4⟩ := e2
    exact ⟨xs, p.ext _ _ e3 (no _), Paired.mapP e4 fun q x k => ⟨k.key, k.dep, rp _ _ k.kr, let ⟨v, r1, r2⟩ := k.vr; ⟨v, r1, rp _ _ r2⟩⟩⟩
  | box m => obtain ⟨i1, i2, i3, e3, e5⟩ := e2; exact ⟨i1, i2, i3, p.ext _ _ e3 (no _), e5⟩
/-- a list that a run on nothing has made -/
theorem Post.empL {μ1 : Nat → Addr} {j lk : Nat} {ts : List D} (hr : HRep P w K H μ hh) (hc : hh.n < MH.cap) (p : Post P w K H μ1 MH.emp H' μ2 h2) (hj : j < h2.n) (hg : h2.get j = some (.lst lk ts)) (hf : D.flats ts = true) :
    Post P w K H μ hh H' (muN μ hh.n (μ2 j)) (hh.new (.lst 0 ts)) := by
  have p0 := Post.emp hr p
  have hn : H (μ2 j) = none := p.new j _ (Nat.zero_le _) hj hg rfl
  obtain ⟨o, e1, e2⟩ := p.rep.obj j hj
  rw [hg] at e1
  cases e1
  obtain ⟨vs, e3, e4⟩ := e2
  have mu : ∀ i, i < hh.n → muN μ hh.n (μ2 j) i = μ i := fun i hi => if_neg (Nat.ne_of_lt hi)
  have self : muN μ hh.n (μ2 j) hh.n = μ2 j := if_pos rfl
  have rps : ∀ ds vs, RepAll K H' μ hh.n ds vs → RepAll K H' (muN μ hh.n (μ2 j)) (hh.n + 1) ds vs := fun ds vs => RepAll.mono (fun _ _ x => x) mu (Nat.le_succ _) ds vs
  have rp : ∀ d v, Rep K H' μ hh.n d v → Rep K H' (muN μ hh.n (μ2 j)) (hh.n + 1) d v := fun d v => Rep.mono (fun _ _ x => x) mu (Nat.le_succ _) d v
  have old : ∀ i, i < hh.n → (hh.new (.lst 0 ts)).get i = hh.get i := fun i hi => by rw [MH.get_new hc, if_neg (Nat.ne_of_lt hi)]
  have last : (hh.new (.lst 0 ts)).get hh.n = some (.lst 0 ts) := by rw [MH.get_new hc, if_pos rfl]
  have nm : ∀ i oi, i < hh.n → hh.get i = some oi → oi.mut = true → μ i ≠ μ2 j := fun i oi hi e m z => own_of_none hr hn ⟨i, oi, hi, e, m, z⟩
  refine ⟨⟨fun i hi => ?_, fun i j' oi oj hi hj ei ej mi mj q => ?_, by show hh.n + 1 ≤ MH.cap; omega⟩, fun a o e n => p0.ext a o e n, mu, Nat.le_succ _, fun i o' x y e m => ?_, fun i o' hi e _ => (old i hi).trans e, fun i o' hi e => ⟨o', (old i hi).trans e, rfl⟩⟩
  · have hi : i < hh.n + 1 := hi
    by_cases hz : i = hh.n
    · subst hz
      rw [self]
      exact ⟨_, last, vs, e3, reps_any ts vs hf e4⟩
    · have hlt : i < hh.n := by omega
      obtain ⟨o1, q1, q2⟩ := p0.rep.obj i hlt
      refine ⟨o1, (old i hlt).trans q1, ?_⟩
      rw [mu i hlt]
      cases o1 with
      | lst lk ds => obtain ⟨vs, e3, e4⟩ := q2; exact ⟨vs, e3, rps _ _ e4⟩
      | frz ds => obtain ⟨vs, e3, e4⟩ := q2; exact ⟨vs, e3, rps _ _ e4⟩
      | dct lk kvs =>
        obtain ⟨xs, e3, e4⟩ := q2
        exact ⟨xs, e3, Paired.mapP e4 fun q x k => ⟨k.key, k.dep, rp _ _ k.kr, let ⟨v, r1, r2⟩ := k.vr; ⟨v, r1, rp _ _ r2⟩⟩⟩
      | box m => exact q2
  · have hi : i < hh.n + 1 := hi
    have hj : j' < hh.n + 1 := hj
    by_cases hi' : i = hh.n
    · by_cases hj' : j' = hh.n
      · rw [hi', hj']
      · have hjl : j' < hh.n := by omega
        rw [mu j' hjl, hi', self] at q
        exact absurd q.symm (nm j' oj hjl ((old j' hjl).symm.trans ej) mj)
    · have hil : i < hh.n := by omega
      by_cases hj' : j' = hh.n
      · rw [mu i hil, hj', self] at q
        exact absurd q (nm i oi hil ((old i hil).symm.trans ei) mi)
      · have hjl : j' < hh.n := by omega
        rw [mu i hil, mu j' hjl] at q
        exact hr.inj i j' oi oj hil hjl ((old i hil).symm.trans ei) ((old j' hjl).symm.trans ej) mi mj q
  · have y : i < hh.n + 1 := y
    have hz : i = hh.n := by omega
    rw [hz, self]
    exact hn
/-- a box of n, or three ints that are one -/
def boxN : MO → Option Nat
  | .box m => some m
  | .lst 0 [.int _, .int j, .int k] => bif decide (0 ≤ j) && (decide (j < 4611686018427387904) && decide (0 ≤ k)) then some k.toNat else none
  | _ => none
def boxO (N : Nat) (o : MO) : Bool := match boxN o with
  | some m => Nat.ble m N
  | none => false
def boxH (N : Nat) (h : MH) : Bool := match h.get 0 with
  | some o => boxO N o
  | none => false
theorem boxN_rep {a : Addr} {N m : Nat} {o : MO} (h : boxN o = some N) (r : ORep P w K H μ m a o) : o.mut = true ∧ o.lk = 0 ∧ ∃ i j k : Int, H a = some (.lst [.int i, .int j, .int k]) ∧ 0 ≤ j ∧ j < 2 ^ 62 ∧ 0 ≤ k ∧ k ≤ N := by
  unfold boxN at h
  split at h
  · obtain ⟨i, j, k, e, a1, a2, a3, a4⟩ := r
    cases h
    exact ⟨rfl, rfl, i, j, k, e, a1, a2, a3, a4⟩
  · rename_i i j k
    cases q : (decide (0 ≤ j) && (decide (j < 4611686018427387904) && decide (0 ≤ k))) with
    | false => rw [q] at h; cases h
    | true =>
      rw [q] at h
      cases h
      simp only [Bool.and_eq_true, decide_eq_true_eq] at q
      obtain ⟨vs, e, ra⟩ := r
      cases ra with
      | cons r1 ra => cases ra with
        | cons r2 ra => cases ra with
          | cons r3 ra =>
            cases ra
            cases r1; cases r2; cases r3
            exact ⟨rfl, rfl, _, _, _, e, q.1, by omega, q.2.2, by omega⟩
  · cases h
theorem boxO_rep {a : Addr} {N m : Nat} {o : MO} (h : boxO N o = true) (r : ORep P w K H μ m a o) : ∃ i j k : Int, H a = some (.lst [.int i, .int j, .int k]) ∧ 0 ≤ j ∧ j < 2 ^ 62 ∧ 0 ≤ k ∧ k ≤ N := by
  unfold boxO at h
  split at h
  · rename_i m' q
    obtain ⟨_, _, i, j, k, e, a1, a2, a3, a4⟩ := boxN_rep q r
    have := Nat.ble_eq.mp h
    exact ⟨i, j, k, e, a1, a2, a3, by omega⟩
  · cases h
/-- behind a run on the box alone, the caller's heap has another box -/
theorem Post.box {μ1 : Nat → Addr} {nb N : Nat} {o1 oc : MO} (hr : HRep P w K H μ hh) (hb : b < hh.n) (hg : hh.get b = some oc) (hB : boxN oc = some nb) (n1 : h1.n = 1) (g1 : h1.get 0 = some o1) (m1 : μ1 0 = μ b) (p : Post P w K H μ1 h1 H' μ2 h2) (hx : boxH N h2 = true) :
    Post P w K H μ hh H' μ (hh.put b (.box N)) := by
  have hc : b < MH.cap := Nat.lt_of_lt_of_le hb hr.cap
  obtain ⟨ob, eb, rb⟩ := hr.obj b hb
  rw [hg] at eb
  cases eb
  obtain ⟨om, ol, b1, b2, b3, eb, _⟩ := boxN_rep hB rb
  have only : ∀ a, Own h1 μ1 a → a = μ b := fun a ⟨i, _, hi, _, _, e⟩ => by
    have : i = 0 := by omega
    subst this
    exact e.symm.trans m1
  have own : Own hh μ (μ b) := ⟨b, _, hb, hg, om, rfl⟩
  have sq : ∀ a vs, TupN K H a vs → TupN K H' a vs := by
    intro a vs s
    rcases s with ⟨o, e, d⟩ | s
    · refine .inl ⟨o, p.ext a _ e (fun z => ?_), d⟩
      rw [only a z, eb] at e
      cases e
    · exact .inr s
  have rps : ∀ ds vs, RepAll K H μ hh.n ds vs → RepAll K H' μ hh.n ds vs := fun ds vs => RepAll.mono sq (fun _ _ => rfl) (Nat.le_refl _) ds vs
  have rp : ∀ d v, Rep K H μ hh.n d v → Rep K H' μ hh.n d v := fun d v => Rep.mono sq (fun _ _ => rfl) (Nat.le_refl _) d v
  have self : (hh.put b (.box N)).get b = some (.box N) := by rw [MH.get_put hc, if_pos rfl]
  have oth : ∀ j, j ≠ b → (hh.put b (.box N)).get j = hh.get j := fun j hj => by rw [MH.get_put hc, if_neg hj]
  have back : ∀ j oj, j < hh.n → (hh.put b (.box N)).get j = some oj → ∃ ok, hh.get j = some ok ∧ ok.mut = oj.mut := fun j oj hj e => by
    by_cases hij : j = b
    · subst hij
      rw [self] at e
      cases e
      exact ⟨_, hg, om⟩
    · rw [oth j hij] at e
      exact ⟨oj, e, rfl⟩
  refine ⟨⟨fun j hj => ?_, fun j k oj ok hj hk ej ek mj mk q => ?_, hr.cap⟩, fun a o e n => p.ext a o e fun z => n (by rw [only a z]; exact own), fun _ _ => rfl, Nat.le_refl _, fun j o a b => absurd (Nat.lt_of_lt_of_le b a) (Nat.lt_irrefl _), fun j o hj e l => ?_, fun j o hj e => ?_⟩
  · by_cases hij : j = b
    · subst hij
      refine ⟨_, self, ?_⟩
      unfold boxH at hx
      split at hx
      · rename_i o2 g2
        have l0 : 0 < h2.n := by have := p.le; omega
        obtain ⟨o3, e3, r3⟩ := p.rep.obj 0 l0
        rw [g2] at e3
        cases e3
        rw [p.mu 0 (by omega), m1] at r3
        exact boxO_rep hx r3
      · cases hx
    · obtain ⟨o, e1, e2⟩ := hr.obj j hj
      refine ⟨o, (oth j hij).trans e1, ?_⟩
      have ne : o.mut = true → ¬ Own h1 μ1 (μ j) := fun m z => hij (hr.inj j b o _ hj hb e1 hg m om (only _ z))
      cases o with
      | lst lk ds => obtain ⟨us, e3, e4⟩ := e2; exact ⟨us, p.ext _ _ e3 (ne rfl), rps _ _ e4⟩
      | frz ds =>
        obtain ⟨us, e3, e4⟩ := e2
        refine ⟨us, ?_, rps _ _ e4⟩
        rcases e3 with ⟨o, e3⟩ | e3
        · refine .inl ⟨o, p.ext _ _ e3 fun z => ?_⟩
          rw [only _ z, eb] at e3
          cases e3
        · exact .inr e3
      | dct lk kvs =>
        obtain ⟨zs, e3, e4⟩ := e2
        exact ⟨zs, p.ext _ _ e3 (ne rfl), Paired.mapP e4 fun q x k => ⟨k.key, k.dep, rp _ _ k.kr, let ⟨v, r1, r2⟩ := k.vr; ⟨v, r1, rp _ _ r2⟩⟩⟩
      | box m => obtain ⟨i1, i2, i3, e3, e5⟩ := e2; exact ⟨i1, i2, i3, p.ext _ _ e3 (ne rfl), e5⟩
  · obtain ⟨o1, a1, b1⟩ := back j oj hj ej
    obtain ⟨o2, a2, b2⟩ := back k ok hk ek
    exact hr.inj j k o1 o2 hj hk a1 a2 (b1.trans mj) (b2.trans mk) q
  · by_cases hij : j = b
    · subst hij
      rw [hg] at e
      cases e
      exact absurd ol l
    · rw [oth j hij]
      exact e
  · by_cases hij : j = b
    · subst hij
      rw [hg] at e
      cases e
      exact ⟨_, self, om.symm⟩
    · exact ⟨o, (oth j hij).trans e, rfl⟩
end
end Mi
set_option Elab.async false
set_option linter.all false
set_option autoImplicit false
set_option maxRecDepth 100000
set_option maxHeartbeats 1600000
namespace Mi
open PySem PySem.Spec PyProof.Rows L2 Mset
open PySem.W (EachIs)

def srtK (ds : List D) (h : MH) : R D := bif okS allS ds && (lenOk ds && ds.all (D.low 40)) then newM (.lst 0 (isort ds)) h else .err
def skeyF : F1 := fun d h => match dctD d h with
  | some (_, kvs) => srtK (kvs.map (·.1)) h
  | none => .err
def pairD (p : D × D) : D := .tup [p.1, p.2]
def sitF : F1 := fun d h => match dctD d h with
  | some (_, kvs) => srtK (kvs.map pairD) h
  | none => .err
section
variable {X : Cx} {pins : List (Addr × Obj)} {σ : L2.St} {H : Hp} {s : Shared} {μ : Nat → Addr} {h : MH}
/-- the end of sorted: what was gathered is laid as a list, sorted -/
theorem sortedEnd {us : List Value} {ds : List D} (hu : X.A.units + 64 < cLine) (I : Inv X pins σ H s) (hr : HRep X.prog X.w X.K H μ h) (rv : EachIs (Rv X.K H μ h.n) us ds) {Q : VK} (br : BR X.prog X.w X.K (rpD X.K) H μ h (srtK ds h) Q) :
    wpAny (model X.prog X.w) X.A.in1 (do
      let l ← newList us
      let _ ← holding [l] (call (.builtin "list.sort") [l] [])
      ret l) (fun f s' => ∃ v, f = .done (.ret v) ∧ EP X pins σ Q v s') X.xe s := by
  unfold srtK at br
  obtain ⟨lk, br⟩ := bif_all br
  rw [Bool.and_eq_true, Bool.and_eq_true] at lk
  obtain ⟨P, F, hP⟩ := okS_fine lk.1
  have hz : ds.length ≤ sizeLine := lenOk_line lk.2.1
  have lu : us.length = ds.length := rv.length
  refine wpAny_bind (wpAny_newList ?_ (by rw [lu]; exact hz))
  refine wpAny_bind (wpAny_holding ?_)
  refine wpAny_mono (sortCall (X := X) (s := s) (A2 := X.A.in1) (Q := Q) I rv F hP (List.all_eq_true.mp lk.2.2) rfl hz (by simp only [Around.in1_units]; omega) fun p ws np rw => newLst hr rw np br) (fun _ s' x => ?_) fun _ _ e => e
  exact wpAny_pure ⟨_, rfl, x⟩
theorem keys_each {kvs : List (D × D)} {xs : List (NestedKey × Addr × Value)} (pr : Paired (KvOk X.K H μ h.n) kvs xs) : EachIs (Rv X.K H μ h.n) (xs.map fun x => Value.ref x.2.1) (kvs.map (·.1)) := by
  induction pr with
  | nil => exact .nil
  | cons r _ ih => exact .cons ⟨.ref _, rfl, r.kr⟩ ih
theorem call_skeyD (hc : X.calm = true) (hu : X.A.units + 64 < cLine) : CallD X (.builtin "sorted") (fa1 skeyF) := by
  refine callD1 fun pins s σ H v u Q I ru rv d h μ hr r1 br => ?_
  unfold skeyF at br
  split at br
  · rename_i i kvs q
    obtain ⟨_, hi, hg, ev, xs, hH, pr⟩ := dctD_of hr r1 q
    subst ev
    cases ru
    obtain ⟨m, z, sm, nd⟩ := dctAt I hH pr
    obtain ⟨o, es, ep, h1, h2, h3, h4, _⟩ := m
    have esz : es.size = xs.length := by rw [← Array.length_toList, h4, List.length_map]
    refine Calls.call_function_entry kind_sorted plain_sorted entry_sorted (args_sorted1 _) ?_
    unfold Builtin.«sorted»
    refine wpAny_bind (m := checkCount "sorted" 1 1 _) (wpAny_pure ?_)
    refine wpAny_bind (PySem.W.kdu_collect (A := X.A.in1) (KdlSrc.rawDict (es := es) (ep := ep) sm) (I.ok.hd hc) ⟨o, h1, h2, h3⟩ (by rw [esz]; exact z) fun h' tk acc kp it => ?_)
    have e : acc.toList = xs.map fun x => Value.ref x.2.1 := by
      apply List.ext_getElem?
      intro j
      rw [Array.getElem?_toList]
      by_cases hj : j < acc.size
      · obtain ⟨hj2, ev⟩ := it.2 j acc[j] (Array.getElem?_eq_getElem hj)
        have hjx : j < xs.length := by rw [← esz]; exact hj2
        rw [Array.getElem?_eq_getElem hj, ev, List.getElem?_map, List.getElem?_eq_getElem hjx]
        have e2 : es[j] = entryOfKey (nestedKind X.prog X.w) xs[j] := by
          have : es.toList[j]? = some (entryOfKey (nestedKind X.prog X.w) xs[j]) := by rw [h4, List.getElem?_map, List.getElem?_eq_getElem hjx]; rfl
          rw [Array.getElem?_toList, Array.getElem?_eq_getElem hj2] at this
          exact Option.some.inj this
        rw [e2] <;> rfl
      · have hl : acc.size = xs.length := by rw [it.1, esz]
        rw [Array.getElem?_eq_none (Nat.le_of_not_lt hj), List.getElem?_map, List.getElem?_eq_none (by omega)] <;> rfl
    rw [e]
    exact sortedEnd hu (I.kept (t' := tk) kp) hr (keys_each pr) br
  · exact False.elim br
/-- pairs that are made, laid as tuples of the layer -/
theorem lay_pairs : ∀ {kvs : List (D × D)} {xs : List (NestedKey × Addr × Value)} {as : List Addr} {H : Hp} {s : Shared}, Inv X pins σ H s → HRep X.prog X.w X.K H μ h → Paired (KvOk X.K H μ h.n) kvs xs → as.length = xs.length → as.Pairwise (· < ·) → (∀ a ∈ as, FpOk X pins H a) →
    (∀ (j : Nat) (a : Addr), as[j]? = some a → ∃ x, xs[j]? = some x ∧ s.heap.get? a = some { cls := .type "tuple", data := .seq #[.ref x.2.1, x.2.2] }) →
    ∃ H1, Inv X pins σ H1 s ∧ Post X.prog X.w X.K H μ h H1 μ h ∧ EachIs (Rv X.K H1 μ h.n) (as.map Value.ref) (kvs.map pairD)
  | _, _, as, H, s, I, hr, .nil, hl, _, _, _ => by
    have : as = [] := List.length_eq_zero_iff.mp hl
    subst this
    exact ⟨H, I, Post.refl hr, .nil⟩
  | _, _, [], H, s, I, hr, .cons _ _, hl, _, _, _ => by simp at hl
  | _, _, a :: as, H, s, I, hr, .cons (a := p) (b := x) (l₁ := ps) (l₂ := rest) r t, hl, hp, hf, hm => by
    obtain ⟨x', e1, e2⟩ := hm 0 a rfl
    simp only [List.getElem?_cons_zero, Option.some.injEq] at e1
    subst e1
    obtain ⟨v, rv, rd⟩ := r.vr
    have fa := hf a List.mem_cons_self
    have I1 : Inv X pins σ (upd H a (.frz { cls := .type "tuple", data := .seq #[.ref x.2.1, x.2.2] } (.tup [.ref x.2.1, v]))) { s with heap := s.heap, toks := s.toks } :=
      I.take (t' := s.toks) (fun b ob _ e => e) fa ⟨e2, by rw [sizeLine_eq]; simp, [.ref x.2.1, x.2.2], .cons rfl (.cons rv .nil), _, e2, rfl, 0, rfl⟩
    have po : Post X.prog X.w X.K H μ h (upd H a (.frz { cls := .type "tuple", data := .seq #[.ref x.2.1, x.2.2] } (.tup [.ref x.2.1, v]))) μ h := Post.newH hr fa.1
    obtain ⟨lt, hp2⟩ := List.pairwise_cons.mp hp
    obtain ⟨H2, I2, p2, ee⟩ := lay_pairs I1 po.rep (Paired.mapP t fun q y k => ⟨k.key, k.dep, po.rp hr k.kr, let ⟨v, r1, r2⟩ := k.vr; ⟨v, r1, po.rp hr r2⟩⟩) (by simpa using hl) hp2
      (fun b hb => ⟨by rw [upd_ne (Nat.ne_of_gt (lt b hb))]; exact (hf b (List.mem_cons_of_mem _ hb)).1, (hf b (List.mem_cons_of_mem _ hb)).2⟩) (fun j b hj => by simpa using hm (j + 1) b (by simpa using hj))
    refine ⟨H2, I2, po.trans hr p2, .cons ⟨.ref a, rfl, p2.rp po.rep ?_⟩ ee⟩
    exact .tup (.inl ⟨_, upd_same, rfl⟩) (.cons (po.rp hr r.kr) (.cons (po.rp hr rd) .nil))
/-- d.items(), the view -/
def ItemO (r d : Addr) : HO := .ext fun h => h.IsItemsView r d
theorem itemO_new {P : Program} {w : World} {H : Hp} {h : Heap} {r d : Addr} (R : h.IsItemsView r d) : ObjOk P w H h r (ItemO r d) := by
  refine ⟨R, (let ⟨o, ho, _⟩ := R; ⟨o, ho⟩), fun h1 h2 p k => ?_⟩
  obtain ⟨o, ho, z⟩ := p
  exact ⟨o, k o ho, z⟩
def rItems (X : Cx) : List V → Hp → VK → Prop := fun vs H Q => ∃ (r : Addr) (d : D) (v : V) (a : Addr) (μ : Nat → Addr) (h : MH), vs = [.ref r] ∧ H r = some (ItemO r a) ∧ v = .ref a ∧ HRep X.prog X.w X.K H μ h ∧ Rep X.K H μ h.n d v ∧ BR X.prog X.w X.K (rpD X.K) H μ h (sitF d h) Q
theorem call_sitD (hc : X.calm = true) (hu : X.A.units + 64 < cLine) : CallR X (.builtin "sorted") (rItems X) := by
  intro pins s σ H vs us Q I rv ⟨r, d, v, a, μ, h, ev, hI, ev2, hr, r1, br⟩
  subst ev ev2
  rw [Vals.ref1 rv]
  unfold sitF at br
  split at br
  · rename_i i kvs q
    obtain ⟨_, hi, hg, ev, xs, hH, pr⟩ := dctD_of hr r1 q
    cases ev
    obtain ⟨m, z, sm, nd⟩ := dctAt I hH pr
    obtain ⟨o, es, ep, h1, h2, h3, h4, _⟩ := m
    have esz : es.size = xs.length := by rw [← Array.length_toList, h4, List.length_map]
    have view : s.heap.IsItemsView r (μ i) := (I.hok r _ hI).1
    refine Calls.call_function_entry kind_sorted plain_sorted entry_sorted (args_sorted1 _) ?_
    unfold Builtin.«sorted»
    refine wpAny_bind (m := checkCount "sorted" 1 1 _) (wpAny_pure ?_)
    refine wpAny_bind (DT.collectI (A := X.A.in1) (es := es) (ep := ep) (I.ok.hd hc) view ⟨o, h1, h2, h3⟩ (by rw [esz]; exact z) fun h' tk as kp _ hl md => ?_)
    obtain ⟨H1, I1, po, ee⟩ := lay_pairs (I.kept (t' := tk) kp) hr pr (by rw [hl, esz]) md.rise (fun b hb => I.fpOk (Nat.le_of_lt (md.above b hb)) (I.hok.fresh (Nat.le_of_lt (md.above b hb)))) (fun j b hj => by
      obtain ⟨e, e1, e2⟩ := md.pairs j b hj
      have e3 : es.toList[j]? = some e := by rw [Array.getElem?_toList]; exact e1
      rw [h4, List.getElem?_map] at e3
      cases qx : xs[j]? with
      | none => rw [qx] at e3; cases e3
      | some x =>
        rw [qx] at e3
        cases e3
        exact ⟨x, rfl, e2⟩)
    exact sortedEnd hu I1 po.rep ee (R.all_mono br fun c h2 q3 H2 μ2 b pp e2 => q3 H2 μ2 b (po.trans hr pp) e2)
  · exact False.elim br
end
end Mi
set_option Elab.async false
set_option linter.all false
set_option autoImplicit false
set_option maxRecDepth 100000
set_option maxHeartbeats 1600000
namespace Mi
open PySem PySem.Spec PyProof.Rows L2 Mset
open PySem.W (EachIs)
section
variable {X : Cx} {o : Expr} {m : ME} {p p2 ap pos : Pos}
theorem ie_sit (hc : X.calm = true) (hu : X.A.units + 64 < cLine) (hm : X.mg "sorted" = none) (ho : ImplE X o m) (hg : Gl X "sorted" := by rfl)
    (hbase : attributeBase o "items" X.env (eval o X.env) = eval o X.env := by rfl) (hline : (ap.endLine == p2.line) = true := by rfl)
    (h1 : starEach [.Call (.Attribute o "items" ap) [] [] p2] X.env = (false, eval (.Call (.Attribute o "items" ap) [] [] p2) X.env) :: starEach [] X.env := by rfl)
    (h2 : (backTo pos (starEach [] X.env)).any (·.1) = false := by rfl) :
    ImplE X (.Call (.Name "sorted" p) [.Call (.Attribute o "items" ap) [] [] p2] [] pos) (mUn sitF m) := by
  intro env h σ H μ Q hr er br
  refine mxE.of (pe_callB (call_sitD hc hu) hg hm PyProof.Rows.boot_sorted (pa_cons peX pa_nil h1) (by decide) (by decide) h1 h2) ?_
  intro pins s I
  refine wpAny_Call_method0_late hbase hline (thn (ho env h σ H μ _ hr er (BR.bind (rp := rpD X.K) hr br) pins s I) fun vv s1 ⟨v, H1, I1, r1, x, μ1, h1, p1, rx, br1⟩ => ?_)
  have br0 := br1
  unfold sitF at br0
  split at br0
  · rename_i i kvs q
    obtain ⟨_, hi, hgt, ev, xs, hH, pr⟩ := dctD_of p1.rep rx q
    subst ev
    cases r1
    obtain ⟨md, z, sm, nd⟩ := dctAt I1 hH pr
    obtain ⟨ob, es, ep, e1, e2, e3, _⟩ := md
    have hn : H1 s1.heap.objs.size = none := I1.hok.fresh (Nat.le_refl _)
    refine ⟨"dict", _, PySem.F.plainAttrs_dict, PySem.F.slot_dict_items, PySem.F.type_dict_items, ⟨ob, e1, e2.1⟩, fun b y => by cases y; exact ⟨ob, e1, e2.2.1⟩, Calls.callWith_builtin rfl (PySem.evalArgs_none (DT.callItems (es := es) (ep := ep) sm ⟨ob, e1, e2, e3⟩ ?_))⟩
    have view : ({ s1 with heap := s1.heap.push { cls := .type "dict_items", data := .fields #[.ref (μ1 i)] } } : Shared).heap.IsItemsView s1.heap.objs.size (μ1 i) := ⟨_, Heap.get?_push_size _ rfl, rfl, rfl⟩
    have po : Post X.prog X.w X.K H1 μ1 h1 (upd H1 s1.heap.objs.size (ItemO s1.heap.objs.size (μ1 i))) μ1 h1 := Post.newH p1.rep hn
    refine ⟨.ref s1.heap.objs.size, _, I1.laid (t' := s1.toks) (fun b u e => Heap.get?_push_of_some _ e) (Nat.le_refl _) (itemO_new view), rfl, ?_⟩
    exact ⟨s1.heap.objs.size, x, _, μ1 i, μ1, h1, rfl, upd_same, rfl, po.rep, po.rp p1.rep rx, R.all_mono br1 fun c h2 q3 H2 μ2 b pp e2 => q3 H2 μ2 b (po.trans p1.rep pp) e2⟩
  · exact False.elim br0
end

section
variable {P : Program} {w : World} {K : PySem.W.Frag} {H : Hp} {μ : Nat → Addr} {hh : MH} {n : Nat} {f : FA} {es : List D} {vs : List V} {Q : VK}
/-- a run on nothing, with a value without refs -/
theorem over_emp {d : D} (run : (f es MH.emp).allB (fun a _ => D.eqb a d) = true) (he : D.flats es = true) (hd : d.flat = true) (hl : es.length = n) (hr : HRep P w K H μ hh) (ra : RepAll K H μ hh.n es vs) (br : BR P w K (rpD K) H μ hh (.ok d hh) Q) : spM P w K n f vs H Q E0 := by
  refine ⟨es, MH.emp, μ, hl, emp_rep, reps_any es vs he ra, R.all_mono (allB_all run) fun a h2 q H' μ2 b p r => ?_⟩
  have e := eqb_to a d q
  subst e
  exact br H' μ b (Post.emp hr p) (rep_any a b hd r)
def isL (ts : List D) (a : D) (h2 : MH) : Bool := match a with
  | .ref j => Nat.blt j h2.n && (match h2.get j with
    | some (.lst _ us) => D.eqbs us ts
    | _ => false)
  | _ => false
/-- a run on nothing, with a list of values without refs -/
theorem over_empL {ts : List D} (run : (f es MH.emp).allB (isL ts) = true) (he : D.flats es = true) (hd : D.flats ts = true) (hl : es.length = n) (hr : HRep P w K H μ hh) (ra : RepAll K H μ hh.n es vs) (br : BR P w K (rpD K) H μ hh (newM (.lst 0 ts) hh) Q) : spM P w K n f vs H Q E0 := by
  obtain ⟨hc, br⟩ := newM_lt br
  refine ⟨es, MH.emp, μ, hl, emp_rep, reps_any es vs he ra, R.all_mono (allB_all run) fun a h2 q H' μ2 b p r => ?_⟩
  unfold isL at q
  split at q
  · rename_i j
    rw [Bool.and_eq_true] at q
    have hj := Nat.blt_eq.mp q.1
    have q2 := q.2
    split at q2
    · rename_i lk us hg
      have e := eqbs_to us ts q2
      subst e
      cases r
      have e2 : V.ref (μ2 j) = V.ref (muN μ hh.n (μ2 j) hh.n) := by rw [show muN μ hh.n (μ2 j) hh.n = μ2 j from if_pos rfl]
      rw [e2]
      exact br H' _ _ (Post.empL hr hc p hj hg hd) (.ref (Nat.lt_succ_self _))
    · cases q2
  · cases q
/-- one object alone -/
def oneH (o : MO) : MH := MH.emp.new o
theorem oneH_get (o : MO) : (oneH o).get 0 = some o := by
  unfold oneH
  rw [MH.get_new (by decide)]
  rfl
theorem one_rep {b : Nat} {o : MO} (ro : ORep P w K H (fun _ => μ b) 1 (μ b) o) : HRep P w K H (fun _ => μ b) (oneH o) := by
  refine ⟨fun i hi => ?_, fun i j _ _ hi hj _ _ _ _ _ => ?_, (by decide : 1 ≤ MH.cap)⟩
  · have hi : i < 1 := hi
    have : i = 0 := by omega
    subst this
    exact ⟨o, oneH_get o, ro⟩
  · have hi : i < 1 := hi
    have hj : j < 1 := hj
    omega
/-- a run on a box alone -/
theorem over_box {b nb N : Nat} {G : D → Bool} {oc : MO} (hb : b < hh.n) (hg : hh.get b = some oc) (hB : boxN oc = some nb) (run : (f (.ref 0 :: es) (oneH (.box nb))).allB (fun a h2 => G a && boxH N h2) = true) (he : D.flats es = true) (hl : es.length + 1 = n) (hr : HRep P w K H μ hh) (ra : RepAll K H μ hh.n (.ref b :: es) vs)
    (hG : ∀ a, G a = true → a.flat = true ∧ BR P w K (rpD K) H μ hh (.ok a (hh.put b (.box N))) Q) : spM P w K n f vs H Q E0 := by
  obtain ⟨o, e1, e2⟩ := hr.obj b hb
  rw [hg] at e1
  cases e1
  obtain ⟨_, _, e2⟩ := boxN_rep hB e2
  cases ra with
  | cons r1 r2 =>
    cases r1
    refine ⟨.ref 0 :: es, oneH (.box nb), fun _ => μ b, by simpa using hl, one_rep e2, .cons (.ref (μ := fun _ => μ b) (Nat.lt_succ_self 0)) (reps_any es _ he r2), R.all_mono (allB_all run) fun a h2 q H' μ2 v p r => ?_⟩
    rw [Bool.and_eq_true] at q
    obtain ⟨hf, br⟩ := hG a q.1
    exact br H' μ v (Post.box hr hb hg hB rfl (oneH_get _) rfl p q.2) (rep_any a v hf r)
/-- a run on the box's three ints -/
theorem over_box3 {b nb N : Nat} {oc : MO} (hb : b < hh.n) (hg : hh.get b = some oc) (hB : boxN oc = some nb) (he : D.flats es = true) (hl : es.length + 1 = n) (hr : HRep P w K H μ hh) (ra : RepAll K H μ hh.n (.ref b :: es) vs)
    (hG : ∀ i j k : Int, 0 ≤ j → j < 2 ^ 62 → 0 ≤ k → k ≤ nb → ∃ a o, f (.ref 0 :: es) (oneH (.lst 0 [.int i, .int j, .int k])) = .ok a o ∧ boxH N o = true ∧ a.flat = true ∧ BR P w K (rpD K) H μ hh (.ok a (hh.put b (.box N))) Q) : spM P w K n f vs H Q E0 := by
  obtain ⟨o, e1, e2⟩ := hr.obj b hb
  rw [hg] at e1
  cases e1
  obtain ⟨_, _, i, j, k, eH, a1, a2, a3, a4⟩ := boxN_rep hB e2
  obtain ⟨a, o, ef, hx, hf, br⟩ := hG i j k a1 a2 a3 a4
  cases ra with
  | cons r1 r2 =>
    cases r1
    refine ⟨.ref 0 :: es, oneH (.lst 0 [.int i, .int j, .int k]), fun _ => μ b, by simpa using hl, one_rep ⟨_, eH, .cons (.int i) (.cons (.int j) (.cons (.int k) .nil))⟩, .cons (.ref (μ := fun _ => μ b) (Nat.lt_succ_self 0)) (reps_any es _ he r2), ?_⟩
    rw [ef]
    intro H' μ2 v p r
    exact br H' μ v (Post.box hr hb hg hB rfl (oneH_get _) rfl p hx) (rep_any a v hf r)
end
end Mi
set_option Elab.async false
set_option linter.all false
set_option autoImplicit false
set_option maxRecDepth 100000
set_option maxHeartbeats 1600000
namespace Mi
open PySem PySem.Spec PyProof.Rows L2 Mset
section
variable {env e1 : Ev} {h h1 h2 h3 : MH} {x y z d : D} {ma mb mc m : ME} {s1 s2 : MS} {mt : MT}
theorem ev_bin {f : F2} {r : R D} (a : ma env h = .ok x h1) (b : mb env h1 = .ok y h2) (c : f x y h2 = r) : mBin f ma mb env h = r := by
  unfold mBin; rw [a]; show (mb env h1).bind _ = r; rw [b]; exact c
theorem ev_call1 {f : F1} {r : R D} (a : ma env h = .ok x h1) (c : f x h1 = r) : mCall (fa1 f) (mCons ma mNil) env h = r := by
  unfold mCall mCons; rw [a]; exact c
theorem ev_tv {b : Bool} (a : ma env h = .ok x h1) (c : truD x h1 = some b) : mTV ma env h = .ok b h1 := by
  unfold mTV; rw [a]
  show (match truD x h1 with
    | some b => .ok b h1
    | none => .err : R Bool) = _
  rw [c]
theorem ev_tb {b : Bool} (a : ma env h = .ok (.bl b) h1) : mTB ma env h = .ok b h1 := by
  unfold mTB; rw [a]; rfl
theorem ev_set {i : Nat} (a : ma env h = .ok x h1) : mSet i ma env h = .ok (.nx (setE env i x)) h1 := by
  unfold mSet; rw [a]; rfl
theorem ev_ret (a : ma env h = .ok x h1) : mRet ma env h = .ok (.rt x) h1 := by
  unfold mRet; rw [a]; rfl
theorem ev_seq {r : R Fl} (a : s1 env h = .ok (.nx e1) h1) (b : s2 e1 h1 = r) : mSeq s1 s2 env h = r := by
  unfold mSeq; rw [a]; exact b
theorem ev_seqR (a : s1 env h = .ok (.rt x) h1) : mSeq s1 s2 env h = .ok (.rt x) h1 := by
  unfold mSeq; rw [a]; rfl
theorem ev_ifT {r : R Fl} (a : mt env h = .ok true h1) (b : s1 env h1 = r) : mIfS mt s1 s2 env h = r := by
  unfold mIfS; rw [a]; exact b
theorem ev_ifF {r : R Fl} (a : mt env h = .ok false h1) (b : s2 env h1 = r) : mIfS mt s1 s2 env h = r := by
  unfold mIfS; rw [a]; exact b
theorem ev_asg {g : MJ} (a : ma env h = .ok x h1) (b : g (.one x) env h1 = .ok e1 h2) : mAsg ma g env h = .ok (.nx e1) h2 := by
  unfold mAsg; rw [a]; show (g (.one x) env h1).bind _ = _; rw [b]; rfl
theorem ev_sub {p j : Nat} {k : Int} {ds : List D} (a : ma env h = .ok x h1) (b : mb env h1 = .ok (.int k) h2) (c : ownD x h2 = some (j, 0, ds)) (e : ixN ds.length k = some p) : gSubL ma mb (.one d) env h = .ok env (h2.put j (.lst 0 (ds.set p d))) := by
  unfold gSubL
  show (ma env h).bind _ = _
  rw [a]
  show (mb env h1).bind _ = _
  rw [b]
  show (match ownD x h2 with
    | some (j, 0, ds) => match ixN ds.length k with
      | some p => .ok env (h2.put j (.lst 0 (ds.set p d)))
      | none => .err
    | _ => .err : R Ev) = _
  rw [c]
  show (match ixN ds.length k with
      | some p => .ok env (h2.put j (.lst 0 (ds.set p d)))
      | none => .err : R Ev) = _
  rw [e]
theorem ev_def {k : Nat} {b : MS} {ds : List D} (a : b (startE k ds) h = .ok (.rt x) h1) : mDef k b ds h = .ok x h1 := by
  unfold mDef; rw [a]; rfl
theorem ev_ix {i : Int} {ds : List D} (a : seqD x h = some ds) (b : atI ds i = some d) : ixD x (.int i) h = .ok d h := by
  unfold ixD
  simp only [a, b]
theorem ev_mod {i j : Int} (p : 0 < j) : modD (.int i) (.int j) h = .ok (.int (i % j)) h := by
  unfold modD; simp only [decide_eq_true p, cond_true]
theorem ev_div {i j : Int} (p : 0 < j) (q : j < 1000000000000) : divD (.int i) (.int j) h = .ok (.int (i / j)) h := by
  unfold divD
  have l : j.natAbs.log2 < 40 := by
    have z : j.natAbs < 2 ^ 40 := by omega
    exact (Nat.log2_lt (by omega)).mpr z
  simp only [decide_eq_true p, show Nat.blt j.natAbs.log2 9000 = true from Nat.blt_eq.mpr (by omega), Bool.and_true, cond_true]
theorem ev_mul {i j : Int} (q : j.natAbs < 1152921504606846976) : mulD (.int i) (.int j) h = .ok (.int (i * j)) h := by
  unfold mulD
  simp only [show Nat.blt j.natAbs 1152921504606846976 = true from Nat.blt_eq.mpr q, Bool.true_or, cond_true]
theorem ev_gtT {i : Int} (p : 0 < i) : cmpD oGt (.int i) (.int 0) h = .ok (.bl true) h := by
  show R.ok (D.bl (oGt (icmp i 0))) h = _
  rw [oGt_i, decide_eq_true p]
theorem ev_gtF {i : Int} (p : ¬ 0 < i) : cmpD oGt (.int i) (.int 0) h = .ok (.bl false) h := by
  show R.ok (D.bl (oGt (icmp i 0))) h = _
  rw [oGt_i, decide_eq_false p]
end
end Mi
set_option Elab.async false
set_option linter.all false
set_option autoImplicit false
set_option maxRecDepth 100000
set_option maxHeartbeats 1600000
namespace Mi
open PySem PySem.Spec PyProof.Rows L2 Mset
section
variable {P : Program} {w : World} {K : PySem.W.Frag} {mg : Str → Option Value} {base : Heap} {k n : Nat} {x : Str} {f : FA}
/-- a new list, told by a number -/
def tabF (N : Nat) (T : Nat → List D) : FA := fun ds h => match ds with
  | [.int i] => bif decide (0 < i) && decide (i ≤ N) then newM (.lst 0 (T i.toNat)) h else .err
  | _ => .err
theorem CallM.tab {N : Nat} {T : Nat → List D} (c : CallM P w K mg base k 1 x f) (run : ((List.range N).all fun i => D.flats (T (i + 1)) && (f [.int ((i : Int) + 1)] MH.emp).allB (isL (T (i + 1)))) = true) : CallM P w K mg base k 1 x (tabF N T) := by
  refine c.imp fun ds hh H μ vs Q hl hr ra br => ?_
  unfold tabF at br
  split at br
  · rename_i i
    obtain ⟨lk, br2⟩ := bif_all br
    rw [Bool.and_eq_true, decide_eq_true_eq, decide_eq_true_eq] at lk
    have e : i = (((i.toNat - 1 : Nat) : Int) + 1) := by omega
    have e2 : i.toNat = (i.toNat - 1) + 1 := by omega
    have q := List.all_eq_true.mp run (i.toNat - 1) (List.mem_range.mpr (by omega))
    rw [Bool.and_eq_true, ← e, ← e2] at q
    exact over_empL q.2 rfl q.1 rfl hr ra br2
  · exact False.elim br
/-- a value without refs, told by a number -/
def valF (N : Nat) (T : Nat → D) : FA := fun ds h => match ds with
  | [.int i] => bif decide (0 < i) && decide (i ≤ N) then .ok (T i.toNat) h else .err
  | _ => .err
theorem CallM.val {N : Nat} {T : Nat → D} (c : CallM P w K mg base k 1 x f) (run : ((List.range N).all fun i => D.flat (T (i + 1)) && (f [.int ((i : Int) + 1)] MH.emp).allB (fun a _ => D.eqb a (T (i + 1)))) = true) : CallM P w K mg base k 1 x (valF N T) := by
  refine c.imp fun ds hh H μ vs Q hl hr ra br => ?_
  unfold valF at br
  split at br
  · rename_i i
    obtain ⟨lk, br2⟩ := bif_all br
    rw [Bool.and_eq_true, decide_eq_true_eq, decide_eq_true_eq] at lk
    have e : i = (((i.toNat - 1 : Nat) : Int) + 1) := by omega
    have e2 : i.toNat = (i.toNat - 1) + 1 := by omega
    have q := List.all_eq_true.mp run (i.toNat - 1) (List.mem_range.mpr (by omega))
    rw [Bool.and_eq_true, ← e, ← e2] at q
    exact over_emp q.2 rfl q.1 rfl hr ra br2
  · exact False.elim br
/-- the same for one number alone -/
def oneF (i : Int) (d : D) : FA := fun ds h => match ds with
  | [.int j] => bif decide (j = i) then .ok d h else .err
  | _ => .err
theorem CallM.one {i : Int} {d : D} (c : CallM P w K mg base k 1 x f) (run : (D.flat d && (f [.int i] MH.emp).allB (fun a _ => D.eqb a d)) = true) : CallM P w K mg base k 1 x (oneF i d) := by
  refine c.imp fun ds hh H μ vs Q hl hr ra br => ?_
  unfold oneF at br
  split at br
  · obtain ⟨lk, br2⟩ := bif_all br
    rw [decide_eq_true_eq] at lk
    subst lk
    rw [Bool.and_eq_true] at run
    exact over_emp run.2 rfl run.1 rfl hr ra br2
  · exact False.elim br
def oneL (i : Int) (ts : List D) : FA := fun ds h => match ds with
  | [.int j] => bif decide (j = i) then newM (.lst 0 ts) h else .err
  | _ => .err
theorem CallM.oneL' {i : Int} {ts : List D} (c : CallM P w K mg base k 1 x f) (run : (D.flats ts && (f [.int i] MH.emp).allB (isL ts)) = true) : CallM P w K mg base k 1 x (oneL i ts) := by
  refine c.imp fun ds hh H μ vs Q hl hr ra br => ?_
  unfold oneL at br
  split at br
  · obtain ⟨lk, br2⟩ := bif_all br
    rw [decide_eq_true_eq] at lk
    subst lk
    rw [Bool.and_eq_true] at run
    exact over_empL run.2 rfl run.1 rfl hr ra br2
  · exact False.elim br
/-- the box at b -/
def boxAt (b : Nat) (h : MH) : Option Nat := bif Nat.blt b h.n then (match h.get b with
  | some o => boxN o
  | none => none) else none
theorem boxAt_of {b n : Nat} {h : MH} (e : boxAt b h = some n) : b < h.n ∧ ∃ o, h.get b = some o ∧ boxN o = some n := by
  unfold boxAt at e
  cases q : Nat.blt b h.n with
  | false => rw [q] at e; cases e
  | true =>
    rw [q] at e
    refine ⟨Nat.blt_eq.mp q, ?_⟩
    simp only [cond_true] at e
    split at e
    · rename_i o g
      exact ⟨o, g, e⟩
    · cases e
/-- a draw -/
def takeF : FA := fun ds h => match ds with
  | [.ref b, .int m] => match boxAt b h with
    | some c => bif decide (0 < m) && (decide (m < 1000000) && Nat.blt c 100000000) then .drw m.toNat (fun i => .ok (.int (i : Int)) (h.put b (.box (c + 1)))) else .err
    | none => .err
  | _ => .err
theorem CallM.take (c : CallM P w K mg base k 2 x f)
    (hp : ∀ i j k m : Int, 0 < i → 0 < m → m < 1000000 → f [.ref 0, .int m] (oneH (.lst 0 [.int i, .int j, .int k])) = .ok (.int (i % m)) ((oneH (.lst 0 [.int i, .int j, .int k])).put 0 (.lst 0 [.int (i / m), .int j, .int k])))
    (hn : ∀ i j k m : Int, ¬ 0 < i → 0 ≤ k → k < 1000000000 → 0 < m → m < 1000000 → ∃ d : Int, f [.ref 0, .int m] (oneH (.lst 0 [.int i, .int j, .int k])) = .ok (.int (d % m)) ((oneH (.lst 0 [.int i, .int j, .int k])).put 0 (.lst 0 [.int i, .int j, .int (k + 1)]))) :
    CallM P w K mg base k 2 x takeF := by
  refine c.imp fun ds hh H μ vs Q hl hr ra br => ?_
  unfold takeF at br
  split at br
  · rename_i b m
    split at br
    · rename_i n q
      obtain ⟨lk, br2⟩ := bif_all br
      simp only [Bool.and_eq_true, decide_eq_true_eq] at lk
      obtain ⟨l1, l2, l3⟩ := lk
      have l3 := Nat.blt_eq.mp l3
      obtain ⟨hb, o, hg, hB⟩ := boxAt_of q
      have pick : ∀ d : Int, BR P w K (rpD K) H μ hh (.ok (.int (d % m)) (hh.put b (.box (n + 1)))) Q := fun d => by
        have a1 := Int.emod_nonneg d (show m ≠ 0 by omega)
        have a2 := Int.emod_lt_of_pos d l1
        have z : BR P w K (rpD K) H μ hh (.ok (.int (((d % m).toNat : Nat) : Int)) (hh.put b (.box (n + 1)))) Q := br2 (d % m).toNat (by omega)
        have e : (((d % m).toNat : Nat) : Int) = d % m := by omega
        rw [e] at z
        exact z
      have gp : ∀ (a o2 : MO), ((oneH a).put 0 o2).get 0 = some o2 := fun a o2 => by rw [MH.get_put (by decide), if_pos rfl]
      refine over_box3 (N := n + 1) hb hg hB rfl (by rfl) hr ra fun i j k j0 j1 k0 k1 => ?_
      by_cases hi : 0 < i
      · refine ⟨_, _, hp i j k m hi l1 l2, ?_, rfl, pick i⟩
        unfold boxH
        rw [gp]
        have e1 : (decide (0 ≤ j) && (decide (j < 4611686018427387904) && decide (0 ≤ k))) = true := by simp; omega
        simp only [boxO, boxN, e1, cond_true]
        exact Nat.ble_eq.mpr (by omega)
      · obtain ⟨d, ed⟩ := hn i j k m hi k0 (by omega) l1 l2
        refine ⟨_, _, ed, ?_, rfl, pick d⟩
        unfold boxH
        rw [gp]
        have e1 : (decide (0 ≤ j) && (decide (j < 4611686018427387904) && decide (0 ≤ k + 1))) = true := by simp; omega
        simp only [boxO, boxN, e1, cond_true]
        exact Nat.ble_eq.mpr (by omega)
    · exact False.elim br
  · exact False.elim br
/-- a def that draws at a box of c and answers True, told by a number -/
def boxF (N c c2 : Nat) : FA := fun ds h => match ds with
  | [.ref b, .int i] => match boxAt b h with
    | some n => bif Nat.beq n c && (decide (0 < i) && decide (i ≤ N)) then .ok (.bl true) (h.put b (.box c2)) else .err
    | none => .err
  | _ => .err
theorem CallM.box {N c c2 : Nat} (cc : CallM P w K mg base k 2 x f) (run : ((List.range N).all fun i => (f [.ref 0, .int ((i : Int) + 1)] (oneH (.box c))).allB (fun a h2 => D.eqb a (.bl true) && boxH c2 h2)) = true) : CallM P w K mg base k 2 x (boxF N c c2) := by
  refine cc.imp fun ds hh H μ vs Q hl hr ra br => ?_
  unfold boxF at br
  split at br
  · rename_i b i
    split at br
    · rename_i n q
      obtain ⟨lk, br2⟩ := bif_all br
      simp only [Bool.and_eq_true, decide_eq_true_eq] at lk
      obtain ⟨l1, l2, l3⟩ := lk
      have l1 := Nat.eq_of_beq_eq_true l1
      subst l1
      obtain ⟨hb, o, hg, hB⟩ := boxAt_of q
      have e : i = (((i.toNat - 1 : Nat) : Int) + 1) := by omega
      have z := List.all_eq_true.mp run (i.toNat - 1) (List.mem_range.mpr (by omega))
      rw [← e] at z
      refine over_box (G := fun a => D.eqb a (.bl true)) hb hg hB z rfl (by rfl) hr ra fun a ha => ?_
      rw [eqb_to _ _ ha]
      exact ⟨rfl, br2⟩
    · exact False.elim br
  · exact False.elim br
/-- a def that draws one of a table, at boxes of the counts cs: (count, count behind) -/
def drawF (m : Int) (T : List D) (cs : List (Nat × Nat)) : FA := fun ds h => match ds with
  | [.ref b, .int i] => match boxAt b h with
    | some n => match cs.find? (fun p => Nat.beq p.1 n) with
      | some p => bif decide (i = m) then .drw T.length (fun i => match T[i]? with
        | some d => .ok d (h.put b (.box p.2))
        | none => .err) else .err
      | none => .err
    | none => .err
  | _ => .err
theorem CallM.draw {m : Int} {T : List D} {cs : List (Nat × Nat)} (cc : CallM P w K mg base k 2 x f) (run : (D.flats T && cs.all fun p => (f [.ref 0, .int m] (oneH (.box p.1))).allB (fun a h2 => T.any (fun d => D.eqb d a) && boxH p.2 h2)) = true) : CallM P w K mg base k 2 x (drawF m T cs) := by
  refine cc.imp fun ds hh H μ vs Q hl hr ra br => ?_
  unfold drawF at br
  split at br
  · rename_i b i
    split at br
    · rename_i n q
      split at br
      · rename_i p qp
        obtain ⟨lk, br2⟩ := bif_all br
        rw [decide_eq_true_eq] at lk
        subst lk
        have e1 := Nat.eq_of_beq_eq_true (List.find?_some (p := fun p : Nat × Nat => Nat.beq p.1 n) qp)
        obtain ⟨p1, p2⟩ := p
        simp only at e1
        subst e1
        obtain ⟨hb, o, hg, hB⟩ := boxAt_of q
        rw [Bool.and_eq_true] at run
        have z := List.all_eq_true.mp run.2 (p1, p2) (List.mem_of_find?_eq_some qp)
        refine over_box (G := fun a => T.any (fun d => D.eqb d a)) hb hg hB z rfl (by rfl) hr ra fun a ha => ?_
        obtain ⟨d, hd, ed⟩ := List.any_eq_true.mp ha
        have ed := eqb_to _ _ ed
        subst ed
        obtain ⟨j, hj, ej⟩ := List.mem_iff_getElem.mp hd
        have zz : BR P w K (rpD K) H μ hh (match T[j]? with
          | some d => .ok d (hh.put b (.box p2))
          | none => .err) Q := br2 j hj
        rw [List.getElem?_eq_getElem hj, ej] at zz
        refine ⟨?_, zz⟩
        have fl : ∀ l : List D, D.flats l = true → ∀ x ∈ l, x.flat = true := by
          intro l
          induction l with
          | nil => intro _ x hx; cases hx
          | cons y l ih =>
            intro h x hx
            rw [D.flats, Bool.and_eq_true] at h
            rcases List.mem_cons.mp hx with e | hx
            · rw [e]; exact h.1
            · exact ih h.2 x hx
        exact fl T run.1 d hd
      · exact False.elim br
    · exact False.elim br
  · exact False.elim br
/-- a def that leaves the box as it is and answers True, at each of a table -/
def sameF (T : List D) : FA := fun ds h => match ds with
  | [.ref b, t] => match boxAt b h with
    | some n => bif T.any (fun d => D.eqb d t) then .ok (.bl true) (h.put b (.box n)) else .err
    | none => .err
  | _ => .err
def pickB : R D → Option MO
  | .ok (.bl true) h => h.get 0
  | _ => none
theorem pickB_of {r : R D} {n : Nat} (e : pickB r = some (.box n)) : r.allB (fun a h2 => D.eqb a (.bl true) && boxH n h2) = true := by
  unfold pickB at e
  split at e
  · rename_i h
    show (D.eqb (.bl true) (.bl true) && boxH n h) = true
    unfold boxH
    rw [e]
    simp only [boxO, boxN]
    rw [Nat.ble_eq.mpr (Nat.le_refl n)]
    rfl
  · cases e
theorem CallM.same {T : List D} (cc : CallM P w K mg base k 2 x f) (hT : D.flats T = true) (run : ∀ t ∈ T, ∀ n : Nat, pickB (f [.ref 0, t] (oneH (.box n))) = some (.box n)) : CallM P w K mg base k 2 x (sameF T) := by
  refine cc.imp fun ds hh H μ vs Q hl hr ra br => ?_
  unfold sameF at br
  split at br
  · rename_i b t
    split at br
    · rename_i n q
      obtain ⟨lk, br2⟩ := bif_all br
      obtain ⟨hb, o, hg, hB⟩ := boxAt_of q
      obtain ⟨d, hd, ed⟩ := List.any_eq_true.mp lk
      have ed := eqb_to _ _ ed
      subst ed
      have fl : ∀ l : List D, D.flats l = true → ∀ x ∈ l, x.flat = true := by
        intro l
        induction l with
        | nil => intro _ x hx; cases hx
        | cons y l ih =>
          intro h x hx
          rw [D.flats, Bool.and_eq_true] at h
          rcases List.mem_cons.mp hx with e | hx
          · rw [e]; exact h.1
          · exact ih h.2 x hx
      have fd : D.flats [d] = true := by rw [D.flats, fl T hT d hd]; rfl
      refine over_box (G := fun a => D.eqb a (.bl true)) hb hg hB (pickB_of (run d hd n)) fd (by rfl) hr ra fun a ha => ?_
      rw [eqb_to _ _ ha]
      exact ⟨rfl, br2⟩
    · exact False.elim br
  · exact False.elim br
/-- a new list, told by a value without refs -/
def findT (t : D) : List (D × List D) → Option (List D)
  | [] => none
  | p :: r => bif D.eqb p.1 t then some p.2 else findT t r
def mapF (T : List (D × List D)) : FA := fun ds h => match ds with
  | [t] => match findT t T with
    | some ts => newM (.lst 0 ts) h
    | none => .err
  | _ => .err
theorem findT_of {t : D} {ts : List D} : ∀ {T : List (D × List D)}, findT t T = some ts → (t, ts) ∈ T
  | [], e => by cases e
  | p :: r, e => by
    rw [findT] at e
    cases q : D.eqb p.1 t with
    | true =>
      rw [q] at e
      cases e
      rw [← eqb_to _ _ q]
      exact List.mem_cons_self
    | false =>
      rw [q] at e
      exact List.mem_cons_of_mem _ (findT_of e)
theorem CallM.map {T : List (D × List D)} (c : CallM P w K mg base k 1 x f) (run : ∀ p ∈ T, (D.flat p.1 && (D.flats p.2 && (f [p.1] MH.emp).allB (isL p.2))) = true) : CallM P w K mg base k 1 x (mapF T) := by
  refine c.imp fun ds hh H μ vs Q hl hr ra br => ?_
  unfold mapF at br
  split at br
  · rename_i t
    split at br
    · rename_i ts q
      have z := run _ (findT_of q)
      rw [Bool.and_eq_true, Bool.and_eq_true] at z
      exact over_empL z.2.2 (by rw [D.flats, z.1]; rfl) z.2.1 rfl hr ra br
    · exact False.elim br
  · exact False.elim br
end
end Mi
set_option Elab.async false
set_option linter.all false
set_option autoImplicit false
set_option maxRecDepth 100000
set_option maxHeartbeats 1600000
namespace Mi
open PySem PySem.Spec PyProof.Rows L2 Mset
def forceN {α : Type} (n : Nat) (k : Nat → α) : α := Nat.casesOn n (k Nat.zero) fun m => k (Nat.succ m)
theorem forceN_eq {α : Type} (n : Nat) (k : Nat → α) : forceN n k = k n := by cases n <;> rfl
def forceI {α : Type} (i : Int) (k : Int → α) : α := match i with
  | .ofNat n => forceN n fun n => k (.ofNat n)
  | .negSucc n => forceN n fun n => k (.negSucc n)
theorem forceI_eq {α : Type} (i : Int) (k : Int → α) : forceI i k = k i := by
  cases i <;> (unfold forceI; exact forceN_eq _ _)
mutual
def force {α : Type} : D → (D → α) → α
  | .non, k => k .non
  | .bl b, k => match b with
    | true => k (.bl true)
    | false => k (.bl false)
  | .int i, k => forceI i fun i => k (.int i)
  | .str x, k => k (.str x)
  | .tup ds, k => forces ds fun ds => k (.tup ds)
  | .ref n, k => forceN n fun n => k (.ref n)
def forces {α : Type} : List D → (List D → α) → α
  | [], k => k []
  | d :: ds, k => force d fun d => forces ds fun ds => k (d :: ds)
end
mutual
theorem force_eq {α : Type} : ∀ (d : D) (k : D → α), force d k = k d
  | .non, _ => rfl
  | .bl b, _ => by cases b <;> rfl
  | .int i, k => by rw [force]; exact forceI_eq _ _
  | .str _, _ => rfl
  | .tup ds, k => by rw [force]; exact forces_eq ds _
  | .ref n, k => by rw [force]; exact forceN_eq _ _
theorem forces_eq {α : Type} : ∀ (ds : List D) (k : List D → α), forces ds k = k ds
  | [], _ => by rw [forces]
  | d :: ds, k => by rw [forces, force_eq d, forces_eq ds]
end
/-- what a run on nothing gives, in the caller's heap -/
def flatK (h : MH) (r : R D) (els : R D) : R D := match r with
  | .ok d h' => bif d.flat then force d fun d => .ok d h else (match d with
    | .ref j => match h'.get j with
      | some (.lst _ ts) => bif Nat.blt j h'.n && D.flats ts then forces ts fun ts => newM (.lst 0 ts) h else els
      | _ => els
    | _ => els)
  | _ => els
def flatF (f : FA) : FA := fun ds h => bif D.flats ds then forces ds (fun ds => flatK h (f ds MH.emp) (f ds h)) else f ds h
section
variable {P : Program} {w : World} {K : PySem.W.Frag} {mg : Str → Option Value} {base : Heap} {k n : Nat} {x : Str} {f : FA}
theorem D.eqb_self (d : D) : D.eqb d d = true := eqb_refl d
theorem CallM.flat (c : CallM P w K mg base k n x f) : CallM P w K mg base k n x (flatF f) := by
  refine c.imp fun ds hh H μ vs Q hl hr ra br => ?_
  unfold flatF at br
  cases q : D.flats ds with
  | false =>
    rw [q] at br
    exact ⟨ds, hh, μ, hl, hr, ra, br⟩
  | true =>
    rw [q] at br
    simp only [cond_true] at br
    rw [forces_eq] at br
    have els : BR P w K (rpD K) H μ hh (f ds hh) Q → spM P w K n f vs H Q E0 := fun br => ⟨ds, hh, μ, hl, hr, ra, br⟩
    unfold flatK at br
    split at br
    · rename_i d h' e
      cases qd : d.flat with
      | true =>
        rw [qd] at br
        simp only [cond_true] at br
        rw [force_eq] at br
        refine over_emp (d := d) ?_ q qd hl hr ra br
        rw [e]
        exact eqb_refl d
      | false =>
        rw [qd] at br
        simp only [cond_false] at br
        split at br
        · rename_i j
          split at br
          · rename_i lk ts hg
            cases q2 : (Nat.blt j h'.n && D.flats ts) with
            | true =>
              rw [q2] at br
              simp only [cond_true] at br
              rw [forces_eq] at br
              rw [Bool.and_eq_true] at q2
              refine over_empL (ts := ts) ?_ q q2.2 hl hr ra br
              rw [e]
              show (Nat.blt j h'.n && _) = true
              rw [q2.1, hg]
              exact eqbs_refl ts
            | false =>
              rw [q2] at br
              exact els br
          · exact els br
        · exact els br
    · exact els br
end
/-- a def that calls itself, its calls of plain data on heaps of their own -/
def mRecF (j : Nat) (b : FA → MS) : Nat → FA := fun k => Nat.rec (flatF (mDef j mErr)) (fun _ ih => flatF (mDef j (b ih))) k
theorem call_recF {P : Program} {w : World} {K : PySem.W.Frag} {mg : Str → Option Value} {base : Heap} {x qual : Str} {st : Stmt} {f : Addr} {fd : FuncData} {N ps : List Str} {L n j : Nat} {b : FA → MS}
    (F : FunD K x qual (defArgs st) (defBody st) (defScope st) [] [] f fd) (S : FnScope N ps (defScope st)) (hm : mg x = some (.ref f)) (hn : ps.length = n) (hj : N.length = n + j)
    (hB : ∀ (kV doc pm : Value) (an : Option Addr) (cdv ct : Value) (us : List Value), us.length = ps.length → bindArgs (PySem.W.fnOf x qual (defArgs st) (defBody st) (defScope st) .none kV doc pm an cdv ct) ⟨us, []⟩ = pure (ps.zip us))
    (hbody : ∀ (self : FA) (k : Nat), CallM P w K mg base (L + k) n x self → ∀ (cdv : Value) (A : Around) (outer : List Env) (s : Shared) (H : Hp) (E : XK), RoomG (L + k) (A.deeper (envOfC qual (defScope st) s.heap.objs.size f cdv)) →
      ImplSs (cxOf CX0 P w K mg base N qual (defScope st) f cdv A outer s H E).nox (defBody st) (b self)) : ∀ k : Nat, CallM P w K mg base (L + k + 1) n x (mRecF j b k)
  | 0 => (call_rec F S hm hn hj hB hbody 0).flat
  | k + 1 => (call_def F S hm hn hj hB fun cdv A outer s H E hr => hbody (mRecF j b k) (k + 1) (call_recF F S hm hn hj hB hbody k) cdv A outer s H E hr).flat
end Mi
set_option Elab.async false
set_option linter.all false
set_option autoImplicit false
set_option maxRecDepth 100000
set_option maxHeartbeats 1600000
namespace Mi
open PySem PySem.Spec PyProof.Rows L2
/-- a call gave True and left what stood -/
abbrev Told (s : Shared) (r : Result) (t : Shared) : Prop := r = .ok (.ret (.bool true)) ∧ OldK s.heap t.heap ∧ t.os = s.os ∧ AllBare t.gens
section
variable {P : Program} {w : World} {K : PySem.W.Frag} {mg mb : Str → Option Value} {k : Nat} {f a : Addr} {fd : FuncData} {x : Str} {sp : Sp} {s : Shared} {us : List Value} {ns : List Int}
/-- at most the script is told of -/
def Lone (K : PySem.W.Frag) (a : Addr) (H : Hp) : Prop := ∀ b u, H b = some u → (b = a ∧ K.lookup a = none) ∧ ∃ o ys, u = .frz o (.lst ys)
theorem told_of {H : Hp} (lone : Lone K a H) (ok : HOk P w H s.heap) (hs : s.heap.get? a = some { cls := .type "list", data := .seq us.toArray })
    (kin : K.In s.heap) (gm : s.heap.Ns mainGlobals mg) (gb : s.heap.Ns builtinsNs mb) (bb : ∀ y : Str, y ≠ "__name__" → mb y = bootBuiltins y) (nl : s.heap.NoLimit) (ng : s.gens = #[])
    (room : RoomG k callerA) (F : ∀ base : Heap, K.In base → base.Ns mainGlobals mg → FnG P w K mg base k f fd [x] sp) (bd : ∀ (t : Shared) (u : Value), BindsTo t fd ⟨[u], []⟩ [(x, u)])
    (pr : sp [.ref a] H (fun v _ => v = .bl true) fun _ _ _ => False) : codeAny (model P w) callerA (.call (.ref f) ⟨[.ref a], []⟩) (Told s) s := by
  have dic : ∀ {b : Addr} {o : Obj} {es : Array DictEntry} {ep : Nat}, s.heap.get? b = some o → o.data = .dict es ep → H b = none := by
    intro b o es ep e d
    cases q : H b with
    | none => rfl
    | some u =>
      obtain ⟨⟨rfl, _⟩, _⟩ := lone b u q
      rw [hs] at e
      cases e
      exact nomatch (show Data.seq us.toArray _ = Data.dict es ep from d)
  have nsH : ∀ {b : Addr} {m : Str → Option Value}, s.heap.Ns b m → (hidT s.heap H).Ns b m := by
    rintro b m ⟨o, es, ep, e, d, r⟩
    exact ⟨o, es, ep, hidT_get e (dic e d), d, r⟩
  have kinH : K.In (hidT s.heap H) := by
    intro b o e
    refine hidT_get (kin b o e) ?_
    cases q : H b with
    | none => rfl
    | some u =>
      obtain ⟨⟨rfl, z⟩, _⟩ := lone b u q
      rw [z] at e
      cases e
  obtain ⟨mc, nc, lc⟩ := nl
  have env : Env0 P w K mg (hidT s.heap H) callerA [] s H :=
    { frames := rfl, mod := ⟨kinH, nsH gm, ⟨mb, nsH gb, bb⟩, ⟨mc, nsH nc, lc⟩⟩, bs := fun b o e => of_hidT e, bsz := Nat.le_of_eq (hidT_size _ _), funs := trivial, frf := fun b hb => (nomatch hb), hok := ok, bare := .of_eq ng }
  refine codeAny_mono ((F _ kinH (nsH gm)).go callerA [] s H ⟨[.ref a], []⟩ [.ref a] [.ref a] _ _ room env (bd s (.ref a)) (.cons rfl .nil) pr) fun r t q => ?_
  cases r with
  | error e => exact False.elim q
  | ok fl =>
    cases fl with
    | ret u =>
      obtain ⟨v, H', e1, e2, un, ok', rv, qv⟩ := q
      have qv : v = .bl true := qv
      subst qv
      have ru : u = Value.bool true := rv
      subst ru
      refine ⟨rfl, OldK.of_keep fun b o e => ?_, e1, e2⟩
      cases h : H b with
      | none => exact un.keep b o e h (fun z => nomatch z) (fun z => nomatch z)
      | some u =>
        obtain ⟨_, o2, ys, rfl⟩ := lone b u h
        have g1 := (ok b _ h).1
        have g2 := (ok' b _ (un.frzs b o2 _ h)).1
        rw [e] at g1
        rw [g1]
        exact g2
    | _ => exact False.elim q
theorem sq_frz {H : Hp} {b : Addr} {vs : List V} (lone : Lone K a H) (q : SqL K H b vs) : (∃ o, H b = some (.frz o (.lst vs))) ∨ KLst K b vs := by
  rcases q with (q | q) | q
  · obtain ⟨_, o, ys, z⟩ := lone b _ q
    cases z
  · exact .inl q
  · exact .inr q
/-- the mirror of the law, run on the script alone -/
theorem spM_law {H : Hp} {m : FA} {n : Nat} (lone : Lone K a H) (q : SqL K H a (ns.map V.int)) (run : (m [.ref 0] (oneH (.frz (ns.map .int)))).all fun d _ => d = .bl true) (E : XK) : spM P w K 1 m [.ref a] H (fun v _ => v = .bl true) E := by
  have allI : ∀ l : List Int, RepAll K H (fun _ => a) 1 (l.map .int) (l.map V.int) := by
    intro l
    induction l with
    | nil => exact .nil
    | cons i l ih => exact .cons (.int i) ih
  refine ⟨[.ref 0], oneH (.frz (ns.map .int)), fun _ => a, rfl, one_rep (μ := fun _ => a) (b := 0) ⟨_, sq_frz lone q, allI ns⟩, .cons (.ref (μ := fun _ => a) (Nat.lt_succ_self 0)) .nil, R.all_mono run fun d h e H' μ' v p r => by
    have z : Rep K H' μ' h.n d v := r
    rw [e] at z
    cases z
    rfl⟩
end
section
variable {l : PySem.W.OpenLaw} {q : Program} {loose : List Str} {XP : (Str → Option Value) → Heap → Prop} {YP : World → Heap → Prop} {d : DefRec} {x : Str} {k : Nat} {m : FA}
/-- the walk's end, from the law's mirror -/
theorem walkM (hn : l.most = some 63) (hd : d.params.defaults = []) (room : RoomG k callerA)
    (F : ∀ (w : World) (mg : Str → Option Value) (f : Addr) (h : Heap), YP w h → h.Ns mainGlobals mg → mg d.name = some (.ref f) →
      ∃ (K : PySem.W.Frag) (fd : FuncData), K.In h ∧ (∀ (t : Shared) (u : Value), BindsTo t fd ⟨[u], []⟩ [(x, u)]) ∧ ∀ base : Heap, K.In base → base.Ns mainGlobals mg → FnG l.prog w K mg base k f fd [x] (spM l.prog w K 1 m))
    (run : ∀ ns : List Int, ns.length ≤ 63 → (m [.ref 0] (oneH (.frz (ns.map .int)))).all fun d _ => d = .bl true) :
    PySem.W.WalkO q loose XP YP l.row.toRowW d [] (fun f vs => PySem.call f vs) := by
  refine Att.attach_call hn hd fun w s₀ s mg mb f o pm cd doc a us ns G Y ho hod hcd hmg hobj hints hlen hg => ?_
  obtain ⟨K, fd, kin, bd, FF⟩ := F w mg f _ Y G.T.g hmg
  have rv := vals_ints hints
  have sz : ns.length ≤ sizeLine := Nat.le_trans hlen (by decide)
  have fin : ∀ H : Hp, Lone K a H → HOk l.prog w H s.heap → SqL K H a (ns.map V.int) → codeAny (model l.prog w) callerA (.call (.ref f) ⟨[.ref a], []⟩) (Told s) s := fun H lo ok sq =>
    told_of lo ok hobj kin G.T.g G.T.b G.T.builtins G.T.nolimit hg room FF bd (spM_law (n := 0) lo sq (run ns hlen) _)
  cases hk : K.lookup a with
  | some o2 =>
    have e := kin a o2 hk
    rw [hobj] at e
    cases e
    exact fin (fun _ => none) (fun b u z => nomatch z) (fun b u z => nomatch z) (.inr ⟨_, us.toArray, _, hk, rfl, rfl, rfl, by rw [List.size_toArray, hints.length]; exact sz, by simpa using rv⟩)
  | none =>
    have at_a : (fun b => if b = a then some (HO.frz { cls := .type "list", data := .seq us.toArray } (.lst (ns.map V.int))) else none : Hp) a = some (.frz { cls := .type "list", data := .seq us.toArray } (.lst (ns.map V.int))) := if_pos rfl
    have only : ∀ b u, (fun b => if b = a then some (HO.frz { cls := .type "list", data := .seq us.toArray } (.lst (ns.map V.int))) else none : Hp) b = some u → b = a ∧ u = .frz { cls := .type "list", data := .seq us.toArray } (.lst (ns.map V.int)) := by
      intro b u z
      by_cases hb : b = a
      · subst hb
        exact ⟨rfl, Option.some.inj (z.symm.trans at_a)⟩
      · have z2 : (if b = a then some (HO.frz { cls := .type "list", data := .seq us.toArray } (.lst (ns.map V.int))) else none) = some u := z
        rw [if_neg hb] at z2
        cases z2
    refine fin (fun b => if b = a then some (HO.frz { cls := .type "list", data := .seq us.toArray } (.lst (ns.map V.int))) else none) (fun b u z => ?_) (fun b u z => ?_) (.inl (.inr ⟨{ cls := .type "list", data := .seq us.toArray }, at_a⟩))
    · obtain ⟨e1, e2⟩ := only b u z
      exact ⟨⟨e1, hk⟩, _, _, e2⟩
    · obtain ⟨e1, e2⟩ := only b u z
      subst e1 e2
      exact ⟨hobj, by rw [List.length_map]; exact sz, us, _, rv, hobj⟩
end
def hookA (as : List Addr) (fa : List He.Fa) (fn : List He.DefD) : PySem.W.Hook where
  α := He.AlD
  obs := fun s => He.obsD fa fn (He.frG s.heap.get? as)
  val := fun _ => He.valD fn
  says := fun _ h => ∃ K : PySem.W.Frag, K.In h ∧ He.SaysD fa fn K
  of := fun _ _ e => ⟨_, He.frG_in, e⟩
  keeps := fun _ _ _ ⟨K, i, c⟩ k => ⟨K, PySem.W.Frag.In.keeps i k, c⟩
def obA (as : List Addr) (fa : List He.Fa) (fn : List He.DefD) (s : PySem.W.SharedT) : He.AlD := He.obsD fa fn (He.frG (HandSHeadRun.getT s) as)
theorem obA_eq (as : List Addr) (fa : List He.Fa) (fn : List He.DefD) (s : PySem.W.SharedT) : obA as fa fn s = (hookA as fa fn).obs s.abs := by
  have e : HandSHeadRun.getT s = s.abs.heap.get? := funext fun a => HandSHeadRun.getT_eq s a
  unfold obA
  rw [e]
  rfl
section
variable {P : Program} {w : World} {K : PySem.W.Frag} {mg : Str → Option Value} {base : Heap}
/-- a def's promise by its mirror, its object told -/
theorem fnG_def {x qual : Str} {st : Stmt} {f : Addr} {fd : FuncData} {N ps : List Str} {k n j : Nat} {b : MS} (F : FunD K x qual (defArgs st) (defBody st) (defScope st) [] [] f fd) (S : FnScope N ps (defScope st)) (hn : ps.length = n) (hj : N.length = n + j)
    (hbody : ∀ (cdv : Value) (A : Around) (outer : List Env) (s : Shared) (H : Hp) (E : XK), RoomG k (A.deeper (envOfC qual (defScope st) s.heap.objs.size f cdv)) → ImplSs (cxOf CX0 P w K mg base N qual (defScope st) f cdv A outer s H E).nox (defBody st) b) :
    FnG P w K mg base (k + 1) f fd ps (spM P w K n (mDef j b)) := by
  refine fnG_of F S (fun vs H Q E h => ?_) (fun cdv A outer s H vs Q E hr h => ⟨mxSs (cxOf CX0 P w K mg base N qual (defScope st) f cdv A outer s H E).nox (defBody st), PSs.nox pssX, ?_⟩)
  · obtain ⟨ds, hh, μ, l, hr, ra, br⟩ := h
    rw [← ra.length, l, hn]
  · obtain ⟨ds, hh, μ, l, hrep, ra, br⟩ := h
    have e : L2.start N vs = vs.map some ++ List.replicate j none := by
      unfold L2.start
      rw [hj, ← ra.length, l, Nat.add_sub_cancel_left]
    rw [e]
    refine hbody cdv A outer s H E hr (startE j ds) hh _ H μ _ hrep (start_rep ra j) (R.all_mono (R.all_bind.mp br) fun fl h1 q H1 μ1 v p r => ?_)
    cases fl with
    | rt d =>
      cases v with
      | rt u => exact q H1 μ1 u p r
      | _ => exact False.elim r
    | nx env =>
      cases v with
      | nx σ => exact q H1 μ1 .non p .non
      | _ => exact False.elim r
    | _ => exact False.elim q
end
end Mi
set_option Elab.async false
set_option linter.all false
set_option autoImplicit false
set_option maxRecDepth 100000
set_option maxHeartbeats 4000000
namespace Mi
open PySem PySem.Spec PyProof.Rows L2 Mset
def top (i : Nat) : Stmt := PySem.Challenge.pw_driftsuntold_k91_across_whole_counts_of.main.body.getD i (.Pass ⟨0, 0, 0, 0⟩)
def dd (x : Str) (i : Nat) : He.DefD := ⟨(x, none), x, x, defArgs (top i), defBody (top i), defScope (top i), [], []⟩
def fn : List He.DefD := [dd "tupled" 3, dd "is_number" 4, dd "is_count" 5, dd "is_below" 6, dd "is_tuple_of" 7, dd "set_of" 8, dd "sure_number" 9, dd "sure_count" 10, dd "sure_within" 11, dd "shared" 13, dd "made" 14, dd "is_sorted" 17, dd "is_tree" 18, dd "sure_tree" 19, dd "size_in" 20, dd "size_of" 21, dd "depth_in" 22, dd "depth_of" 23, dd "leaves_in" 24, dd "leaves_of" 25, dd "most_in" 26, dd "most_hanging" 27, dd "under" 28, dd "hung" 29, dd "grown_in" 30, dd "grown_trees" 31, dd "listed" 32, dd "listed_to" 33, dd "all_trees" 34, dd "trees_to" 35, dd "how_many_trees" 36, dd "tree_number" 37, dd "density_in" 39, dd "product_to" 43, dd "likeness_in" 44, dd "likeness" 45, dd "sizes_in" 46, dd "node_sizes" 47, dd "hangings_in" 48, dd "how_many_orders" 49, dd "how_many_free" 50, dd "tree_counts" 51, dd "likeness_sum" 52, dd "trees_with" 53, dd "hanging_counts" 54, dd "is_coloured" 59, dd "sure_coloured" 60, dd "sure_colour" 61, dd "coloured_of" 62, dd "size_coloured" 63, dd "coloured_size" 64, dd "bare_in" 65, dd "bare_tree" 66, dd "hung_in" 67, dd "grown_coloured" 68, dd "listed_coloured" 69, dd "coloured_trees" 70, dd "painted_in" 71, dd "painted" 72, dd "parted" 74, dd "tied_cuts" 77, dd "cuts_of" 78, dd "cut_ways" 79, dd "how_many_cuts" 80, dd "hung_below" 81, dd "hung_everywhere" 82, dd "roots_moved" 83, dd "root_moved" 84, dd "free_in" 85, dd "lots_of_free" 86, dd "free_counts" 87, dd "middles_in" 88, dd "node_count" 89, dd "middle_nodes" 90, dd "trees_at_nodes" 92, dd "nodes_of" 93, dd "names_under" 94, dd "nodes_under" 95, dd "trees_of_degree" 98, dd "how_many_of_degree" 99, dd "lot_of" 100, dd "lots_in" 101, dd "number_lots" 102, dd "lot_counts" 103, dd "_law_box" 105, dd "_law_take" 106, dd "_law_cells" 107, dd "_law_of" 108, dd "_law_same" 109, dd "_law_lists" 110, dd "_law_gcd" 111, dd "_law_fr" 112, dd "_law_sum" 113, dd "_law_added" 114, dd "_law_size" 115, dd "_law_grown" 116, dd "_law_trees" 117, dd "_law_density" 118, dd "_law_likeness" 119, dd "_law_hung" 120, dd "_law_tree" 121, dd "_law_counted" 122, dd "_law_parted" 123, dd "_law_leaves" 124, dd "_law_most" 125, dd "_law_deep" 126, dd "_law_cuts" 127, dd "_law_coloured_likeness" 128, dd "_law_bare" 129, dd "_law_lists_right" 130, dd "_law_lots_right" 131, dd "_law_colours_right" 132, dd "_law_one_right" 133, dd "law" 134]
def fa : List He.Fa := [.glo "tupled", .glo "is_number", .glo "is_count", .glo "is_below", .glo "is_tuple_of", .glo "set_of", .glo "sure_number", .glo "sure_count", .glo "sure_within", .glo "shared", .glo "made", .glo "is_sorted", .glo "is_tree", .glo "sure_tree", .glo "size_in", .glo "size_of", .glo "depth_in", .glo "depth_of", .glo "leaves_in", .glo "leaves_of", .glo "most_in", .glo "most_hanging", .glo "under", .glo "hung", .glo "grown_in", .glo "grown_trees", .glo "listed", .glo "listed_to", .glo "all_trees", .glo "trees_to", .glo "how_many_trees", .glo "tree_number", .glo "density_in", .glo "product_to", .glo "likeness_in", .glo "likeness", .glo "sizes_in", .glo "node_sizes", .glo "hangings_in", .glo "how_many_orders", .glo "how_many_free", .glo "tree_counts", .glo "likeness_sum", .glo "trees_with", .glo "hanging_counts", .glo "is_coloured", .glo "sure_coloured", .glo "sure_colour", .glo "coloured_of", .glo "size_coloured", .glo "coloured_size", .glo "bare_in", .glo "bare_tree", .glo "hung_in", .glo "grown_coloured", .glo "listed_coloured", .glo "coloured_trees", .glo "painted_in", .glo "painted", .glo "parted", .glo "tied_cuts", .glo "cuts_of", .glo "cut_ways", .glo "how_many_cuts", .glo "hung_below", .glo "hung_everywhere", .glo "roots_moved", .glo "root_moved", .glo "free_in", .glo "lots_of_free", .glo "free_counts", .glo "middles_in", .glo "node_count", .glo "middle_nodes", .glo "trees_at_nodes", .glo "nodes_of", .glo "names_under", .glo "nodes_under", .glo "trees_of_degree", .glo "how_many_of_degree", .glo "lot_of", .glo "lots_in", .glo "number_lots", .glo "lot_counts", .glo "_law_box", .glo "_law_take", .glo "_law_cells", .glo "_law_of", .glo "_law_same", .glo "_law_lists", .glo "_law_gcd", .glo "_law_fr", .glo "_law_sum", .glo "_law_added", .glo "_law_size", .glo "_law_grown", .glo "_law_trees", .glo "_law_density", .glo "_law_likeness", .glo "_law_hung", .glo "_law_tree", .glo "_law_counted", .glo "_law_parted", .glo "_law_leaves", .glo "_law_most", .glo "_law_deep", .glo "_law_cuts", .glo "_law_coloured_likeness", .glo "_law_bare", .glo "_law_lists_right", .glo "_law_lots_right", .glo "_law_colours_right", .glo "_law_one_right", .glo "law", .free "abs", .free "all", .free "bool", .free "enumerate", .free "int", .free "isinstance", .free "len", .free "list", .free "max", .free "min", .free "range", .free "set", .free "sorted", .free "str", .free "sum", .free "tuple", .free "zip", .int "MOST_LISTED" 8, .int "MOST_COUNTED" 60, .int "MOST_NAMED" 7, .int "MOST_COLOURED" 5, .int "PAIR_colours" 2, .int "TWO" 2, .int "PAIR_cuts" 2, .int "MOST_NODES" 7]
/-- what stands behind the top -/
structure Top (K : PySem.W.Frag) (mg : Str → Option Value) : Prop where
  ex : ∃ h : Heap, K.In h ∧ h.Ns mainGlobals mg ∧ He.SaysD fa fn K
section
variable {K : PySem.W.Frag} {mg : Str → Option Value}
theorem Top.free (T : Top K mg) (i : Nat) {x : Str} (h : fa[i]? = some (.free x)) : mg x = none := by
  obtain ⟨hh, X, G, c⟩ := T.ex
  exact He.free_ok X G (c.fact i h)
theorem Top.cst (T : Top K mg) (i : Nat) {x : Str} {n : Int} (h : fa[i]? = some (.int x n)) : ∃ t, mg x = some (.int n t) := by
  obtain ⟨hh, X, G, c⟩ := T.ex
  exact He.int_ok X G (c.fact i h)
theorem Top.def_ (T : Top K mg) (i : Nat) {d : He.DefD} (h : fn[i]? = some d) (h2 : fa[i]? = some (.glo d.name)) : ∃ fd, FunD K d.name d.qual d.params d.body d.scope (d.dvs K) (d.kws K) (He.fAd K d.at_) fd ∧ mg d.name = some (.ref (He.ga K d.name)) := by
  obtain ⟨hh, X, G, c⟩ := T.ex
  obtain ⟨fd, F⟩ := c.def_ i h
  exact ⟨fd, F, He.glo_ok X G (c.fact i h2)⟩
end
def sz : Nat → List D
  | 1 => [.tup []]
  | 2 => [.tup [.tup []]]
  | 3 => [.tup [.tup [], .tup []], .tup [.tup [.tup []]]]
  | 4 => [.tup [.tup [], .tup [], .tup []], .tup [.tup [], .tup [.tup []]], .tup [.tup [.tup [], .tup []]], .tup [.tup [.tup [.tup []]]]]
  | 5 => [.tup [.tup [], .tup [], .tup [], .tup []], .tup [.tup [], .tup [], .tup [.tup []]], .tup [.tup [], .tup [.tup [], .tup []]], .tup [.tup [], .tup [.tup [.tup []]]], .tup [.tup [.tup []], .tup [.tup []]], .tup [.tup [.tup [], .tup [], .tup []]], .tup [.tup [.tup [], .tup [.tup []]]], .tup [.tup [.tup [.tup [], .tup []]]], .tup [.tup [.tup [.tup [.tup []]]]]]
  | 6 => [.tup [.tup [], .tup [], .tup [], .tup [], .tup []], .tup [.tup [], .tup [], .tup [], .tup [.tup []]], .tup [.tup [], .tup [], .tup [.tup [], .tup []]], .tup [.tup [], .tup [], .tup [.tup [.tup []]]], .tup [.tup [], .tup [.tup []], .tup [.tup []]], .tup [.tup [], .tup [.tup [], .tup [], .tup []]], .tup [.tup [], .tup [.tup [], .tup [.tup []]]], .tup [.tup [], .tup [.tup [.tup [], .tup []]]], .tup [.tup [], .tup [.tup [.tup [.tup []]]]], .tup [.tup [.tup []], .tup [.tup [], .tup []]], .tup [.tup [.tup []], .tup [.tup [.tup []]]], .tup [.tup [.tup [], .tup [], .tup [], .tup []]], .tup [.tup [.tup [], .tup [], .tup [.tup []]]], .tup [.tup [.tup [], .tup [.tup [], .tup []]]], .tup [.tup [.tup [], .tup [.tup [.tup []]]]], .tup [.tup [.tup [.tup []], .tup [.tup []]]], .tup [.tup [.tup [.tup [], .tup [], .tup []]]], .tup [.tup [.tup [.tup [], .tup [.tup []]]]], .tup [.tup [.tup [.tup [.tup [], .tup []]]]], .tup [.tup [.tup [.tup [.tup [.tup []]]]]]]
  | 7 => [.tup [.tup [], .tup [], .tup [], .tup [], .tup [], .tup []], .tup [.tup [], .tup [], .tup [], .tup [], .tup [.tup []]], .tup [.tup [], .tup [], .tup [], .tup [.tup [], .tup []]], .tup [.tup [], .tup [], .tup [], .tup [.tup [.tup []]]], .tup [.tup [], .tup [], .tup [.tup []], .tup [.tup []]], .tup [.tup [], .tup [], .tup [.tup [], .tup [], .tup []]], .tup [.tup [], .tup [], .tup [.tup [], .tup [.tup []]]], .tup [.tup [], .tup [], .tup [.tup [.tup [], .tup []]]], .tup [.tup [], .tup [], .tup [.tup [.tup [.tup []]]]], .tup [.tup [], .tup [.tup []], .tup [.tup [], .tup []]], .tup [.tup [], .tup [.tup []], .tup [.tup [.tup []]]], .tup [.tup [], .tup [.tup [], .tup [], .tup [], .tup []]], .tup [.tup [], .tup [.tup [], .tup [], .tup [.tup []]]], .tup [.tup [], .tup [.tup [], .tup [.tup [], .tup []]]], .tup [.tup [], .tup [.tup [], .tup [.tup [.tup []]]]], .tup [.tup [], .tup [.tup [.tup []], .tup [.tup []]]], .tup [.tup [], .tup [.tup [.tup [], .tup [], .tup []]]], .tup [.tup [], .tup [.tup [.tup [], .tup [.tup []]]]], .tup [.tup [], .tup [.tup [.tup [.tup [], .tup []]]]], .tup [.tup [], .tup [.tup [.tup [.tup [.tup []]]]]], .tup [.tup [.tup []], .tup [.tup []], .tup [.tup []]], .tup [.tup [.tup []], .tup [.tup [], .tup [], .tup []]], .tup [.tup [.tup []], .tup [.tup [], .tup [.tup []]]], .tup [.tup [.tup []], .tup [.tup [.tup [], .tup []]]], .tup [.tup [.tup []], .tup [.tup [.tup [.tup []]]]], .tup [.tup [.tup [], .tup []], .tup [.tup [], .tup []]], .tup [.tup [.tup [], .tup []], .tup [.tup [.tup []]]], .tup [.tup [.tup [], .tup [], .tup [], .tup [], .tup []]], .tup [.tup [.tup [], .tup [], .tup [], .tup [.tup []]]], .tup [.tup [.tup [], .tup [], .tup [.tup [], .tup []]]], .tup [.tup [.tup [], .tup [], .tup [.tup [.tup []]]]], .tup [.tup [.tup [], .tup [.tup []], .tup [.tup []]]], .tup [.tup [.tup [], .tup [.tup [], .tup [], .tup []]]], .tup [.tup [.tup [], .tup [.tup [], .tup [.tup []]]]], .tup [.tup [.tup [], .tup [.tup [.tup [], .tup []]]]], .tup [.tup [.tup [], .tup [.tup [.tup [.tup []]]]]], .tup [.tup [.tup [.tup []]], .tup [.tup [.tup []]]], .tup [.tup [.tup [.tup []], .tup [.tup [], .tup []]]], .tup [.tup [.tup [.tup []], .tup [.tup [.tup []]]]], .tup [.tup [.tup [.tup [], .tup [], .tup [], .tup []]]], .tup [.tup [.tup [.tup [], .tup [], .tup [.tup []]]]], .tup [.tup [.tup [.tup [], .tup [.tup [], .tup []]]]], .tup [.tup [.tup [.tup [], .tup [.tup [.tup []]]]]], .tup [.tup [.tup [.tup [.tup []], .tup [.tup []]]]], .tup [.tup [.tup [.tup [.tup [], .tup [], .tup []]]]], .tup [.tup [.tup [.tup [.tup [], .tup [.tup []]]]]], .tup [.tup [.tup [.tup [.tup [.tup [], .tup []]]]]], .tup [.tup [.tup [.tup [.tup [.tup [.tup []]]]]]]]
  | _ => []
def szTo : Nat → List D
  | 0 => []
  | n + 1 => szTo n ++ sz (n + 1)
def forest : List D := [.tup [], .tup [.tup []], .tup [.tup [], .tup []], .tup [.tup [.tup []]], .tup [.tup [], .tup [], .tup []], .tup [.tup [], .tup [.tup []]], .tup [.tup [.tup [], .tup []]], .tup [.tup [.tup [.tup []]]], .tup [.tup [], .tup [], .tup [], .tup []], .tup [.tup [], .tup [], .tup [.tup []]], .tup [.tup [], .tup [.tup [], .tup []]], .tup [.tup [], .tup [.tup [.tup []]]], .tup [.tup [.tup []], .tup [.tup []]], .tup [.tup [.tup [], .tup [], .tup []]], .tup [.tup [.tup [], .tup [.tup []]]], .tup [.tup [.tup [.tup [], .tup []]]], .tup [.tup [.tup [.tup [.tup []]]]], .tup [.tup [], .tup [], .tup [], .tup [], .tup []], .tup [.tup [], .tup [], .tup [], .tup [.tup []]], .tup [.tup [], .tup [], .tup [.tup [], .tup []]], .tup [.tup [], .tup [], .tup [.tup [.tup []]]], .tup [.tup [], .tup [.tup []], .tup [.tup []]], .tup [.tup [], .tup [.tup [], .tup [], .tup []]], .tup [.tup [], .tup [.tup [], .tup [.tup []]]], .tup [.tup [], .tup [.tup [.tup [], .tup []]]], .tup [.tup [], .tup [.tup [.tup [.tup []]]]], .tup [.tup [.tup []], .tup [.tup [], .tup []]], .tup [.tup [.tup []], .tup [.tup [.tup []]]], .tup [.tup [.tup [], .tup [], .tup [], .tup []]], .tup [.tup [.tup [], .tup [], .tup [.tup []]]], .tup [.tup [.tup [], .tup [.tup [], .tup []]]], .tup [.tup [.tup [], .tup [.tup [.tup []]]]], .tup [.tup [.tup [.tup []], .tup [.tup []]]], .tup [.tup [.tup [.tup [], .tup [], .tup []]]], .tup [.tup [.tup [.tup [], .tup [.tup []]]]], .tup [.tup [.tup [.tup [.tup [], .tup []]]]], .tup [.tup [.tup [.tup [.tup [.tup []]]]]], .tup [.tup [], .tup [], .tup [], .tup [], .tup [], .tup []], .tup [.tup [], .tup [], .tup [], .tup [], .tup [.tup []]], .tup [.tup [], .tup [], .tup [], .tup [.tup [], .tup []]], .tup [.tup [], .tup [], .tup [], .tup [.tup [.tup []]]], .tup [.tup [], .tup [], .tup [.tup []], .tup [.tup []]], .tup [.tup [], .tup [], .tup [.tup [], .tup [], .tup []]], .tup [.tup [], .tup [], .tup [.tup [], .tup [.tup []]]], .tup [.tup [], .tup [], .tup [.tup [.tup [], .tup []]]], .tup [.tup [], .tup [], .tup [.tup [.tup [.tup []]]]], .tup [.tup [], .tup [.tup []], .tup [.tup [], .tup []]], .tup [.tup [], .tup [.tup []], .tup [.tup [.tup []]]], .tup [.tup [], .tup [.tup [], .tup [], .tup [], .tup []]], .tup [.tup [], .tup [.tup [], .tup [], .tup [.tup []]]], .tup [.tup [], .tup [.tup [], .tup [.tup [], .tup []]]], .tup [.tup [], .tup [.tup [], .tup [.tup [.tup []]]]], .tup [.tup [], .tup [.tup [.tup []], .tup [.tup []]]], .tup [.tup [], .tup [.tup [.tup [], .tup [], .tup []]]], .tup [.tup [], .tup [.tup [.tup [], .tup [.tup []]]]], .tup [.tup [], .tup [.tup [.tup [.tup [], .tup []]]]], .tup [.tup [], .tup [.tup [.tup [.tup [.tup []]]]]], .tup [.tup [.tup []], .tup [.tup []], .tup [.tup []]], .tup [.tup [.tup []], .tup [.tup [], .tup [], .tup []]], .tup [.tup [.tup []], .tup [.tup [], .tup [.tup []]]], .tup [.tup [.tup []], .tup [.tup [.tup [], .tup []]]], .tup [.tup [.tup []], .tup [.tup [.tup [.tup []]]]], .tup [.tup [.tup [], .tup []], .tup [.tup [], .tup []]], .tup [.tup [.tup [], .tup []], .tup [.tup [.tup []]]], .tup [.tup [.tup [], .tup [], .tup [], .tup [], .tup []]], .tup [.tup [.tup [], .tup [], .tup [], .tup [.tup []]]], .tup [.tup [.tup [], .tup [], .tup [.tup [], .tup []]]], .tup [.tup [.tup [], .tup [], .tup [.tup [.tup []]]]], .tup [.tup [.tup [], .tup [.tup []], .tup [.tup []]]], .tup [.tup [.tup [], .tup [.tup [], .tup [], .tup []]]], .tup [.tup [.tup [], .tup [.tup [], .tup [.tup []]]]], .tup [.tup [.tup [], .tup [.tup [.tup [], .tup []]]]], .tup [.tup [.tup [], .tup [.tup [.tup [.tup []]]]]], .tup [.tup [.tup [.tup []]], .tup [.tup [.tup []]]], .tup [.tup [.tup [.tup []], .tup [.tup [], .tup []]]], .tup [.tup [.tup [.tup []], .tup [.tup [.tup []]]]], .tup [.tup [.tup [.tup [], .tup [], .tup [], .tup []]]], .tup [.tup [.tup [.tup [], .tup [], .tup [.tup []]]]], .tup [.tup [.tup [.tup [], .tup [.tup [], .tup []]]]], .tup [.tup [.tup [.tup [], .tup [.tup [.tup []]]]]], .tup [.tup [.tup [.tup [.tup []], .tup [.tup []]]]], .tup [.tup [.tup [.tup [.tup [], .tup [], .tup []]]]], .tup [.tup [.tup [.tup [.tup [], .tup [.tup []]]]]], .tup [.tup [.tup [.tup [.tup [.tup [], .tup []]]]]], .tup [.tup [.tup [.tup [.tup [.tup [.tup []]]]]]]]
def rootsT : List (D × List D) := [(.tup [], [.tup []]),
  (.tup [.tup []], [.tup [.tup []], .tup [.tup []]]),
  (.tup [.tup [], .tup []], [.tup [.tup [], .tup []], .tup [.tup [.tup []]], .tup [.tup [.tup []]]]),
  (.tup [.tup [.tup []]], [.tup [.tup [.tup []]], .tup [.tup [], .tup []], .tup [.tup [.tup []]]]),
  (.tup [.tup [], .tup [], .tup []], [.tup [.tup [], .tup [], .tup []], .tup [.tup [.tup [], .tup []]], .tup [.tup [.tup [], .tup []]], .tup [.tup [.tup [], .tup []]]]),
  (.tup [.tup [], .tup [.tup []]], [.tup [.tup [], .tup [.tup []]], .tup [.tup [.tup [.tup []]]], .tup [.tup [], .tup [.tup []]], .tup [.tup [.tup [.tup []]]]]),
  (.tup [.tup [.tup [], .tup []]], [.tup [.tup [.tup [], .tup []]], .tup [.tup [], .tup [], .tup []], .tup [.tup [.tup [], .tup []]], .tup [.tup [.tup [], .tup []]]]),
  (.tup [.tup [.tup [.tup []]]], [.tup [.tup [.tup [.tup []]]], .tup [.tup [], .tup [.tup []]], .tup [.tup [], .tup [.tup []]], .tup [.tup [.tup [.tup []]]]]),
  (.tup [.tup [], .tup [], .tup [], .tup []], [.tup [.tup [], .tup [], .tup [], .tup []], .tup [.tup [.tup [], .tup [], .tup []]], .tup [.tup [.tup [], .tup [], .tup []]], .tup [.tup [.tup [], .tup [], .tup []]], .tup [.tup [.tup [], .tup [], .tup []]]]),
  (.tup [.tup [], .tup [], .tup [.tup []]], [.tup [.tup [], .tup [], .tup [.tup []]], .tup [.tup [.tup [], .tup [.tup []]]], .tup [.tup [.tup [], .tup [.tup []]]], .tup [.tup [], .tup [.tup [], .tup []]], .tup [.tup [.tup [.tup [], .tup []]]]]),
  (.tup [.tup [], .tup [.tup [], .tup []]], [.tup [.tup [], .tup [.tup [], .tup []]], .tup [.tup [.tup [.tup [], .tup []]]], .tup [.tup [], .tup [], .tup [.tup []]], .tup [.tup [.tup [], .tup [.tup []]]], .tup [.tup [.tup [], .tup [.tup []]]]]),
  (.tup [.tup [], .tup [.tup [.tup []]]], [.tup [.tup [], .tup [.tup [.tup []]]], .tup [.tup [.tup [.tup [.tup []]]]], .tup [.tup [.tup []], .tup [.tup []]], .tup [.tup [], .tup [.tup [.tup []]]], .tup [.tup [.tup [.tup [.tup []]]]]]),
  (.tup [.tup [.tup []], .tup [.tup []]], [.tup [.tup [.tup []], .tup [.tup []]], .tup [.tup [], .tup [.tup [.tup []]]], .tup [.tup [.tup [.tup [.tup []]]]], .tup [.tup [], .tup [.tup [.tup []]]], .tup [.tup [.tup [.tup [.tup []]]]]]),
  (.tup [.tup [.tup [], .tup [], .tup []]], [.tup [.tup [.tup [], .tup [], .tup []]], .tup [.tup [], .tup [], .tup [], .tup []], .tup [.tup [.tup [], .tup [], .tup []]], .tup [.tup [.tup [], .tup [], .tup []]], .tup [.tup [.tup [], .tup [], .tup []]]]),
  (.tup [.tup [.tup [], .tup [.tup []]]], [.tup [.tup [.tup [], .tup [.tup []]]], .tup [.tup [], .tup [], .tup [.tup []]], .tup [.tup [.tup [], .tup [.tup []]]], .tup [.tup [], .tup [.tup [], .tup []]], .tup [.tup [.tup [.tup [], .tup []]]]]),
  (.tup [.tup [.tup [.tup [], .tup []]]], [.tup [.tup [.tup [.tup [], .tup []]]], .tup [.tup [], .tup [.tup [], .tup []]], .tup [.tup [], .tup [], .tup [.tup []]], .tup [.tup [.tup [], .tup [.tup []]]], .tup [.tup [.tup [], .tup [.tup []]]]]),
  (.tup [.tup [.tup [.tup [.tup []]]]], [.tup [.tup [.tup [.tup [.tup []]]]], .tup [.tup [], .tup [.tup [.tup []]]], .tup [.tup [.tup []], .tup [.tup []]], .tup [.tup [], .tup [.tup [.tup []]]], .tup [.tup [.tup [.tup [.tup []]]]]]),
  (.tup [.tup [], .tup [], .tup [], .tup [], .tup []], [.tup [.tup [], .tup [], .tup [], .tup [], .tup []], .tup [.tup [.tup [], .tup [], .tup [], .tup []]], .tup [.tup [.tup [], .tup [], .tup [], .tup []]], .tup [.tup [.tup [], .tup [], .tup [], .tup []]], .tup [.tup [.tup [], .tup [], .tup [], .tup []]], .tup [.tup [.tup [], .tup [], .tup [], .tup []]]]),
  (.tup [.tup [], .tup [], .tup [], .tup [.tup []]], [.tup [.tup [], .tup [], .tup [], .tup [.tup []]], .tup [.tup [.tup [], .tup [], .tup [.tup []]]], .tup [.tup [.tup [], .tup [], .tup [.tup []]]], .tup [.tup [.tup [], .tup [], .tup [.tup []]]], .tup [.tup [], .tup [.tup [], .tup [], .tup []]], .tup [.tup [.tup [.tup [], .tup [], .tup []]]]]),
  (.tup [.tup [], .tup [], .tup [.tup [], .tup []]], [.tup [.tup [], .tup [], .tup [.tup [], .tup []]], .tup [.tup [.tup [], .tup [.tup [], .tup []]]], .tup [.tup [.tup [], .tup [.tup [], .tup []]]], .tup [.tup [], .tup [], .tup [.tup [], .tup []]], .tup [.tup [.tup [], .tup [.tup [], .tup []]]], .tup [.tup [.tup [], .tup [.tup [], .tup []]]]]),
  (.tup [.tup [], .tup [], .tup [.tup [.tup []]]], [.tup [.tup [], .tup [], .tup [.tup [.tup []]]], .tup [.tup [.tup [], .tup [.tup [.tup []]]]], .tup [.tup [.tup [], .tup [.tup [.tup []]]]], .tup [.tup [.tup []], .tup [.tup [], .tup []]], .tup [.tup [], .tup [.tup [.tup [], .tup []]]], .tup [.tup [.tup [.tup [.tup [], .tup []]]]]]),
  (.tup [.tup [], .tup [.tup []], .tup [.tup []]], [.tup [.tup [], .tup [.tup []], .tup [.tup []]], .tup [.tup [.tup [.tup []], .tup [.tup []]]], .tup [.tup [], .tup [.tup [], .tup [.tup []]]], .tup [.tup [.tup [.tup [], .tup [.tup []]]]], .tup [.tup [], .tup [.tup [], .tup [.tup []]]], .tup [.tup [.tup [.tup [], .tup [.tup []]]]]]),
  (.tup [.tup [], .tup [.tup [], .tup [], .tup []]], [.tup [.tup [], .tup [.tup [], .tup [], .tup []]], .tup [.tup [.tup [.tup [], .tup [], .tup []]]], .tup [.tup [], .tup [], .tup [], .tup [.tup []]], .tup [.tup [.tup [], .tup [], .tup [.tup []]]], .tup [.tup [.tup [], .tup [], .tup [.tup []]]], .tup [.tup [.tup [], .tup [], .tup [.tup []]]]]),
  (.tup [.tup [], .tup [.tup [], .tup [.tup []]]], [.tup [.tup [], .tup [.tup [], .tup [.tup []]]], .tup [.tup [.tup [.tup [], .tup [.tup []]]]], .tup [.tup [], .tup [.tup []], .tup [.tup []]], .tup [.tup [.tup [.tup []], .tup [.tup []]]], .tup [.tup [], .tup [.tup [], .tup [.tup []]]], .tup [.tup [.tup [.tup [], .tup [.tup []]]]]]),
  (.tup [.tup [], .tup [.tup [.tup [], .tup []]]], [.tup [.tup [], .tup [.tup [.tup [], .tup []]]], .tup [.tup [.tup [.tup [.tup [], .tup []]]]], .tup [.tup [.tup []], .tup [.tup [], .tup []]], .tup [.tup [], .tup [], .tup [.tup [.tup []]]], .tup [.tup [.tup [], .tup [.tup [.tup []]]]], .tup [.tup [.tup [], .tup [.tup [.tup []]]]]]),
  (.tup [.tup [], .tup [.tup [.tup [.tup []]]]], [.tup [.tup [], .tup [.tup [.tup [.tup []]]]], .tup [.tup [.tup [.tup [.tup [.tup []]]]]], .tup [.tup [.tup []], .tup [.tup [.tup []]]], .tup [.tup [.tup []], .tup [.tup [.tup []]]], .tup [.tup [], .tup [.tup [.tup [.tup []]]]], .tup [.tup [.tup [.tup [.tup [.tup []]]]]]]),
  (.tup [.tup [.tup []], .tup [.tup [], .tup []]], [.tup [.tup [.tup []], .tup [.tup [], .tup []]], .tup [.tup [], .tup [.tup [.tup [], .tup []]]], .tup [.tup [.tup [.tup [.tup [], .tup []]]]], .tup [.tup [], .tup [], .tup [.tup [.tup []]]], .tup [.tup [.tup [], .tup [.tup [.tup []]]]], .tup [.tup [.tup [], .tup [.tup [.tup []]]]]]),
  (.tup [.tup [.tup []], .tup [.tup [.tup []]]], [.tup [.tup [.tup []], .tup [.tup [.tup []]]], .tup [.tup [], .tup [.tup [.tup [.tup []]]]], .tup [.tup [.tup [.tup [.tup [.tup []]]]]], .tup [.tup [.tup []], .tup [.tup [.tup []]]], .tup [.tup [], .tup [.tup [.tup [.tup []]]]], .tup [.tup [.tup [.tup [.tup [.tup []]]]]]]),
  (.tup [.tup [.tup [], .tup [], .tup [], .tup []]], [.tup [.tup [.tup [], .tup [], .tup [], .tup []]], .tup [.tup [], .tup [], .tup [], .tup [], .tup []], .tup [.tup [.tup [], .tup [], .tup [], .tup []]], .tup [.tup [.tup [], .tup [], .tup [], .tup []]], .tup [.tup [.tup [], .tup [], .tup [], .tup []]], .tup [.tup [.tup [], .tup [], .tup [], .tup []]]]),
  (.tup [.tup [.tup [], .tup [], .tup [.tup []]]], [.tup [.tup [.tup [], .tup [], .tup [.tup []]]], .tup [.tup [], .tup [], .tup [], .tup [.tup []]], .tup [.tup [.tup [], .tup [], .tup [.tup []]]], .tup [.tup [.tup [], .tup [], .tup [.tup []]]], .tup [.tup [], .tup [.tup [], .tup [], .tup []]], .tup [.tup [.tup [.tup [], .tup [], .tup []]]]]),
  (.tup [.tup [.tup [], .tup [.tup [], .tup []]]], [.tup [.tup [.tup [], .tup [.tup [], .tup []]]], .tup [.tup [], .tup [], .tup [.tup [], .tup []]], .tup [.tup [.tup [], .tup [.tup [], .tup []]]], .tup [.tup [], .tup [], .tup [.tup [], .tup []]], .tup [.tup [.tup [], .tup [.tup [], .tup []]]], .tup [.tup [.tup [], .tup [.tup [], .tup []]]]]),
  (.tup [.tup [.tup [], .tup [.tup [.tup []]]]], [.tup [.tup [.tup [], .tup [.tup [.tup []]]]], .tup [.tup [], .tup [], .tup [.tup [.tup []]]], .tup [.tup [.tup [], .tup [.tup [.tup []]]]], .tup [.tup [.tup []], .tup [.tup [], .tup []]], .tup [.tup [], .tup [.tup [.tup [], .tup []]]], .tup [.tup [.tup [.tup [.tup [], .tup []]]]]]),
  (.tup [.tup [.tup [.tup []], .tup [.tup []]]], [.tup [.tup [.tup [.tup []], .tup [.tup []]]], .tup [.tup [], .tup [.tup []], .tup [.tup []]], .tup [.tup [], .tup [.tup [], .tup [.tup []]]], .tup [.tup [.tup [.tup [], .tup [.tup []]]]], .tup [.tup [], .tup [.tup [], .tup [.tup []]]], .tup [.tup [.tup [.tup [], .tup [.tup []]]]]]),
  (.tup [.tup [.tup [.tup [], .tup [], .tup []]]], [.tup [.tup [.tup [.tup [], .tup [], .tup []]]], .tup [.tup [], .tup [.tup [], .tup [], .tup []]], .tup [.tup [], .tup [], .tup [], .tup [.tup []]], .tup [.tup [.tup [], .tup [], .tup [.tup []]]], .tup [.tup [.tup [], .tup [], .tup [.tup []]]], .tup [.tup [.tup [], .tup [], .tup [.tup []]]]]),
  (.tup [.tup [.tup [.tup [], .tup [.tup []]]]], [.tup [.tup [.tup [.tup [], .tup [.tup []]]]], .tup [.tup [], .tup [.tup [], .tup [.tup []]]], .tup [.tup [], .tup [.tup []], .tup [.tup []]], .tup [.tup [.tup [.tup []], .tup [.tup []]]], .tup [.tup [], .tup [.tup [], .tup [.tup []]]], .tup [.tup [.tup [.tup [], .tup [.tup []]]]]]),
  (.tup [.tup [.tup [.tup [.tup [], .tup []]]]], [.tup [.tup [.tup [.tup [.tup [], .tup []]]]], .tup [.tup [], .tup [.tup [.tup [], .tup []]]], .tup [.tup [.tup []], .tup [.tup [], .tup []]], .tup [.tup [], .tup [], .tup [.tup [.tup []]]], .tup [.tup [.tup [], .tup [.tup [.tup []]]]], .tup [.tup [.tup [], .tup [.tup [.tup []]]]]]),
  (.tup [.tup [.tup [.tup [.tup [.tup []]]]]], [.tup [.tup [.tup [.tup [.tup [.tup []]]]]], .tup [.tup [], .tup [.tup [.tup [.tup []]]]], .tup [.tup [.tup []], .tup [.tup [.tup []]]], .tup [.tup [.tup []], .tup [.tup [.tup []]]], .tup [.tup [], .tup [.tup [.tup [.tup []]]]], .tup [.tup [.tup [.tup [.tup [.tup []]]]]]]),
  (.tup [.tup [], .tup [], .tup [], .tup [], .tup [], .tup []], [.tup [.tup [], .tup [], .tup [], .tup [], .tup [], .tup []], .tup [.tup [.tup [], .tup [], .tup [], .tup [], .tup []]], .tup [.tup [.tup [], .tup [], .tup [], .tup [], .tup []]], .tup [.tup [.tup [], .tup [], .tup [], .tup [], .tup []]], .tup [.tup [.tup [], .tup [], .tup [], .tup [], .tup []]], .tup [.tup [.tup [], .tup [], .tup [], .tup [], .tup []]], .tup [.tup [.tup [], .tup [], .tup [], .tup [], .tup []]]]),
  (.tup [.tup [], .tup [], .tup [], .tup [], .tup [.tup []]], [.tup [.tup [], .tup [], .tup [], .tup [], .tup [.tup []]], .tup [.tup [.tup [], .tup [], .tup [], .tup [.tup []]]], .tup [.tup [.tup [], .tup [], .tup [], .tup [.tup []]]], .tup [.tup [.tup [], .tup [], .tup [], .tup [.tup []]]], .tup [.tup [.tup [], .tup [], .tup [], .tup [.tup []]]], .tup [.tup [], .tup [.tup [], .tup [], .tup [], .tup []]], .tup [.tup [.tup [.tup [], .tup [], .tup [], .tup []]]]]),
  (.tup [.tup [], .tup [], .tup [], .tup [.tup [], .tup []]], [.tup [.tup [], .tup [], .tup [], .tup [.tup [], .tup []]], .tup [.tup [.tup [], .tup [], .tup [.tup [], .tup []]]], .tup [.tup [.tup [], .tup [], .tup [.tup [], .tup []]]], .tup [.tup [.tup [], .tup [], .tup [.tup [], .tup []]]], .tup [.tup [], .tup [], .tup [.tup [], .tup [], .tup []]], .tup [.tup [.tup [], .tup [.tup [], .tup [], .tup []]]], .tup [.tup [.tup [], .tup [.tup [], .tup [], .tup []]]]]),
  (.tup [.tup [], .tup [], .tup [], .tup [.tup [.tup []]]], [.tup [.tup [], .tup [], .tup [], .tup [.tup [.tup []]]], .tup [.tup [.tup [], .tup [], .tup [.tup [.tup []]]]], .tup [.tup [.tup [], .tup [], .tup [.tup [.tup []]]]], .tup [.tup [.tup [], .tup [], .tup [.tup [.tup []]]]], .tup [.tup [.tup []], .tup [.tup [], .tup [], .tup []]], .tup [.tup [], .tup [.tup [.tup [], .tup [], .tup []]]], .tup [.tup [.tup [.tup [.tup [], .tup [], .tup []]]]]]),
  (.tup [.tup [], .tup [], .tup [.tup []], .tup [.tup []]], [.tup [.tup [], .tup [], .tup [.tup []], .tup [.tup []]], .tup [.tup [.tup [], .tup [.tup []], .tup [.tup []]]], .tup [.tup [.tup [], .tup [.tup []], .tup [.tup []]]], .tup [.tup [], .tup [.tup [], .tup [], .tup [.tup []]]], .tup [.tup [.tup [.tup [], .tup [], .tup [.tup []]]]], .tup [.tup [], .tup [.tup [], .tup [], .tup [.tup []]]], .tup [.tup [.tup [.tup [], .tup [], .tup [.tup []]]]]]),
  (.tup [.tup [], .tup [], .tup [.tup [], .tup [], .tup []]], [.tup [.tup [], .tup [], .tup [.tup [], .tup [], .tup []]], .tup [.tup [.tup [], .tup [.tup [], .tup [], .tup []]]], .tup [.tup [.tup [], .tup [.tup [], .tup [], .tup []]]], .tup [.tup [], .tup [], .tup [], .tup [.tup [], .tup []]], .tup [.tup [.tup [], .tup [], .tup [.tup [], .tup []]]], .tup [.tup [.tup [], .tup [], .tup [.tup [], .tup []]]], .tup [.tup [.tup [], .tup [], .tup [.tup [], .tup []]]]]),
  (.tup [.tup [], .tup [], .tup [.tup [], .tup [.tup []]]], [.tup [.tup [], .tup [], .tup [.tup [], .tup [.tup []]]], .tup [.tup [.tup [], .tup [.tup [], .tup [.tup []]]]], .tup [.tup [.tup [], .tup [.tup [], .tup [.tup []]]]], .tup [.tup [], .tup [.tup []], .tup [.tup [], .tup []]], .tup [.tup [.tup [.tup []], .tup [.tup [], .tup []]]], .tup [.tup [], .tup [.tup [], .tup [.tup [], .tup []]]], .tup [.tup [.tup [.tup [], .tup [.tup [], .tup []]]]]]),
  (.tup [.tup [], .tup [], .tup [.tup [.tup [], .tup []]]], [.tup [.tup [], .tup [], .tup [.tup [.tup [], .tup []]]], .tup [.tup [.tup [], .tup [.tup [.tup [], .tup []]]]], .tup [.tup [.tup [], .tup [.tup [.tup [], .tup []]]]], .tup [.tup [.tup [], .tup []], .tup [.tup [], .tup []]], .tup [.tup [], .tup [], .tup [.tup [.tup [], .tup []]]], .tup [.tup [.tup [], .tup [.tup [.tup [], .tup []]]]], .tup [.tup [.tup [], .tup [.tup [.tup [], .tup []]]]]]),
  (.tup [.tup [], .tup [], .tup [.tup [.tup [.tup []]]]], [.tup [.tup [], .tup [], .tup [.tup [.tup [.tup []]]]], .tup [.tup [.tup [], .tup [.tup [.tup [.tup []]]]]], .tup [.tup [.tup [], .tup [.tup [.tup [.tup []]]]]], .tup [.tup [.tup [], .tup []], .tup [.tup [.tup []]]], .tup [.tup [.tup []], .tup [.tup [.tup [], .tup []]]], .tup [.tup [], .tup [.tup [.tup [.tup [], .tup []]]]], .tup [.tup [.tup [.tup [.tup [.tup [], .tup []]]]]]]),
  (.tup [.tup [], .tup [.tup []], .tup [.tup [], .tup []]], [.tup [.tup [], .tup [.tup []], .tup [.tup [], .tup []]], .tup [.tup [.tup [.tup []], .tup [.tup [], .tup []]]], .tup [.tup [], .tup [.tup [], .tup [.tup [], .tup []]]], .tup [.tup [.tup [.tup [], .tup [.tup [], .tup []]]]], .tup [.tup [], .tup [], .tup [.tup [], .tup [.tup []]]], .tup [.tup [.tup [], .tup [.tup [], .tup [.tup []]]]], .tup [.tup [.tup [], .tup [.tup [], .tup [.tup []]]]]]),
  (.tup [.tup [], .tup [.tup []], .tup [.tup [.tup []]]], [.tup [.tup [], .tup [.tup []], .tup [.tup [.tup []]]], .tup [.tup [.tup [.tup []], .tup [.tup [.tup []]]]], .tup [.tup [], .tup [.tup [], .tup [.tup [.tup []]]]], .tup [.tup [.tup [.tup [], .tup [.tup [.tup []]]]]], .tup [.tup [.tup []], .tup [.tup [], .tup [.tup []]]], .tup [.tup [], .tup [.tup [.tup [], .tup [.tup []]]]], .tup [.tup [.tup [.tup [.tup [], .tup [.tup []]]]]]]),
  (.tup [.tup [], .tup [.tup [], .tup [], .tup [], .tup []]], [.tup [.tup [], .tup [.tup [], .tup [], .tup [], .tup []]], .tup [.tup [.tup [.tup [], .tup [], .tup [], .tup []]]], .tup [.tup [], .tup [], .tup [], .tup [], .tup [.tup []]], .tup [.tup [.tup [], .tup [], .tup [], .tup [.tup []]]], .tup [.tup [.tup [], .tup [], .tup [], .tup [.tup []]]], .tup [.tup [.tup [], .tup [], .tup [], .tup [.tup []]]], .tup [.tup [.tup [], .tup [], .tup [], .tup [.tup []]]]]),
  (.tup [.tup [], .tup [.tup [], .tup [], .tup [.tup []]]], [.tup [.tup [], .tup [.tup [], .tup [], .tup [.tup []]]], .tup [.tup [.tup [.tup [], .tup [], .tup [.tup []]]]], .tup [.tup [], .tup [], .tup [.tup []], .tup [.tup []]], .tup [.tup [.tup [], .tup [.tup []], .tup [.tup []]]], .tup [.tup [.tup [], .tup [.tup []], .tup [.tup []]]], .tup [.tup [], .tup [.tup [], .tup [], .tup [.tup []]]], .tup [.tup [.tup [.tup [], .tup [], .tup [.tup []]]]]]),
  (.tup [.tup [], .tup [.tup [], .tup [.tup [], .tup []]]], [.tup [.tup [], .tup [.tup [], .tup [.tup [], .tup []]]], .tup [.tup [.tup [.tup [], .tup [.tup [], .tup []]]]], .tup [.tup [], .tup [.tup []], .tup [.tup [], .tup []]], .tup [.tup [.tup [.tup []], .tup [.tup [], .tup []]]], .tup [.tup [], .tup [], .tup [.tup [], .tup [.tup []]]], .tup [.tup [.tup [], .tup [.tup [], .tup [.tup []]]]], .tup [.tup [.tup [], .tup [.tup [], .tup [.tup []]]]]]),
  (.tup [.tup [], .tup [.tup [], .tup [.tup [.tup []]]]], [.tup [.tup [], .tup [.tup [], .tup [.tup [.tup []]]]], .tup [.tup [.tup [.tup [], .tup [.tup [.tup []]]]]], .tup [.tup [], .tup [.tup []], .tup [.tup [.tup []]]], .tup [.tup [.tup [.tup []], .tup [.tup [.tup []]]]], .tup [.tup [.tup []], .tup [.tup [], .tup [.tup []]]], .tup [.tup [], .tup [.tup [.tup [], .tup [.tup []]]]], .tup [.tup [.tup [.tup [.tup [], .tup [.tup []]]]]]]),
  (.tup [.tup [], .tup [.tup [.tup []], .tup [.tup []]]], [.tup [.tup [], .tup [.tup [.tup []], .tup [.tup []]]], .tup [.tup [.tup [.tup [.tup []], .tup [.tup []]]]], .tup [.tup [.tup []], .tup [.tup []], .tup [.tup []]], .tup [.tup [], .tup [.tup [.tup []], .tup [.tup []]]], .tup [.tup [.tup [.tup [.tup []], .tup [.tup []]]]], .tup [.tup [], .tup [.tup [.tup []], .tup [.tup []]]], .tup [.tup [.tup [.tup [.tup []], .tup [.tup []]]]]]),
  (.tup [.tup [], .tup [.tup [.tup [], .tup [], .tup []]]], [.tup [.tup [], .tup [.tup [.tup [], .tup [], .tup []]]], .tup [.tup [.tup [.tup [.tup [], .tup [], .tup []]]]], .tup [.tup [.tup []], .tup [.tup [], .tup [], .tup []]], .tup [.tup [], .tup [], .tup [], .tup [.tup [.tup []]]], .tup [.tup [.tup [], .tup [], .tup [.tup [.tup []]]]], .tup [.tup [.tup [], .tup [], .tup [.tup [.tup []]]]], .tup [.tup [.tup [], .tup [], .tup [.tup [.tup []]]]]]),
  (.tup [.tup [], .tup [.tup [.tup [], .tup [.tup []]]]], [.tup [.tup [], .tup [.tup [.tup [], .tup [.tup []]]]], .tup [.tup [.tup [.tup [.tup [], .tup [.tup []]]]]], .tup [.tup [.tup []], .tup [.tup [], .tup [.tup []]]], .tup [.tup [], .tup [.tup []], .tup [.tup [.tup []]]], .tup [.tup [.tup [.tup []], .tup [.tup [.tup []]]]], .tup [.tup [], .tup [.tup [], .tup [.tup [.tup []]]]], .tup [.tup [.tup [.tup [], .tup [.tup [.tup []]]]]]]),
  (.tup [.tup [], .tup [.tup [.tup [.tup [], .tup []]]]], [.tup [.tup [], .tup [.tup [.tup [.tup [], .tup []]]]], .tup [.tup [.tup [.tup [.tup [.tup [], .tup []]]]]], .tup [.tup [.tup []], .tup [.tup [.tup [], .tup []]]], .tup [.tup [.tup [], .tup []], .tup [.tup [.tup []]]], .tup [.tup [], .tup [], .tup [.tup [.tup [.tup []]]]], .tup [.tup [.tup [], .tup [.tup [.tup [.tup []]]]]], .tup [.tup [.tup [], .tup [.tup [.tup [.tup []]]]]]]),
  (.tup [.tup [], .tup [.tup [.tup [.tup [.tup []]]]]], [.tup [.tup [], .tup [.tup [.tup [.tup [.tup []]]]]], .tup [.tup [.tup [.tup [.tup [.tup [.tup []]]]]]], .tup [.tup [.tup []], .tup [.tup [.tup [.tup []]]]], .tup [.tup [.tup [.tup []]], .tup [.tup [.tup []]]], .tup [.tup [.tup []], .tup [.tup [.tup [.tup []]]]], .tup [.tup [], .tup [.tup [.tup [.tup [.tup []]]]]], .tup [.tup [.tup [.tup [.tup [.tup [.tup []]]]]]]]),
  (.tup [.tup [.tup []], .tup [.tup []], .tup [.tup []]], [.tup [.tup [.tup []], .tup [.tup []], .tup [.tup []]], .tup [.tup [], .tup [.tup [.tup []], .tup [.tup []]]], .tup [.tup [.tup [.tup [.tup []], .tup [.tup []]]]], .tup [.tup [], .tup [.tup [.tup []], .tup [.tup []]]], .tup [.tup [.tup [.tup [.tup []], .tup [.tup []]]]], .tup [.tup [], .tup [.tup [.tup []], .tup [.tup []]]], .tup [.tup [.tup [.tup [.tup []], .tup [.tup []]]]]]),
  (.tup [.tup [.tup []], .tup [.tup [], .tup [], .tup []]], [.tup [.tup [.tup []], .tup [.tup [], .tup [], .tup []]], .tup [.tup [], .tup [.tup [.tup [], .tup [], .tup []]]], .tup [.tup [.tup [.tup [.tup [], .tup [], .tup []]]]], .tup [.tup [], .tup [], .tup [], .tup [.tup [.tup []]]], .tup [.tup [.tup [], .tup [], .tup [.tup [.tup []]]]], .tup [.tup [.tup [], .tup [], .tup [.tup [.tup []]]]], .tup [.tup [.tup [], .tup [], .tup [.tup [.tup []]]]]]),
  (.tup [.tup [.tup []], .tup [.tup [], .tup [.tup []]]], [.tup [.tup [.tup []], .tup [.tup [], .tup [.tup []]]], .tup [.tup [], .tup [.tup [.tup [], .tup [.tup []]]]], .tup [.tup [.tup [.tup [.tup [], .tup [.tup []]]]]], .tup [.tup [], .tup [.tup []], .tup [.tup [.tup []]]], .tup [.tup [.tup [.tup []], .tup [.tup [.tup []]]]], .tup [.tup [], .tup [.tup [], .tup [.tup [.tup []]]]], .tup [.tup [.tup [.tup [], .tup [.tup [.tup []]]]]]]),
  (.tup [.tup [.tup []], .tup [.tup [.tup [], .tup []]]], [.tup [.tup [.tup []], .tup [.tup [.tup [], .tup []]]], .tup [.tup [], .tup [.tup [.tup [.tup [], .tup []]]]], .tup [.tup [.tup [.tup [.tup [.tup [], .tup []]]]]], .tup [.tup [.tup [], .tup []], .tup [.tup [.tup []]]], .tup [.tup [], .tup [], .tup [.tup [.tup [.tup []]]]], .tup [.tup [.tup [], .tup [.tup [.tup [.tup []]]]]], .tup [.tup [.tup [], .tup [.tup [.tup [.tup []]]]]]]),
  (.tup [.tup [.tup []], .tup [.tup [.tup [.tup []]]]], [.tup [.tup [.tup []], .tup [.tup [.tup [.tup []]]]], .tup [.tup [], .tup [.tup [.tup [.tup [.tup []]]]]], .tup [.tup [.tup [.tup [.tup [.tup [.tup []]]]]]], .tup [.tup [.tup [.tup []]], .tup [.tup [.tup []]]], .tup [.tup [.tup []], .tup [.tup [.tup [.tup []]]]], .tup [.tup [], .tup [.tup [.tup [.tup [.tup []]]]]], .tup [.tup [.tup [.tup [.tup [.tup [.tup []]]]]]]]),
  (.tup [.tup [.tup [], .tup []], .tup [.tup [], .tup []]], [.tup [.tup [.tup [], .tup []], .tup [.tup [], .tup []]], .tup [.tup [], .tup [], .tup [.tup [.tup [], .tup []]]], .tup [.tup [.tup [], .tup [.tup [.tup [], .tup []]]]], .tup [.tup [.tup [], .tup [.tup [.tup [], .tup []]]]], .tup [.tup [], .tup [], .tup [.tup [.tup [], .tup []]]], .tup [.tup [.tup [], .tup [.tup [.tup [], .tup []]]]], .tup [.tup [.tup [], .tup [.tup [.tup [], .tup []]]]]]),
  (.tup [.tup [.tup [], .tup []], .tup [.tup [.tup []]]], [.tup [.tup [.tup [], .tup []], .tup [.tup [.tup []]]], .tup [.tup [], .tup [], .tup [.tup [.tup [.tup []]]]], .tup [.tup [.tup [], .tup [.tup [.tup [.tup []]]]]], .tup [.tup [.tup [], .tup [.tup [.tup [.tup []]]]]], .tup [.tup [.tup []], .tup [.tup [.tup [], .tup []]]], .tup [.tup [], .tup [.tup [.tup [.tup [], .tup []]]]], .tup [.tup [.tup [.tup [.tup [.tup [], .tup []]]]]]]),
  (.tup [.tup [.tup [], .tup [], .tup [], .tup [], .tup []]], [.tup [.tup [.tup [], .tup [], .tup [], .tup [], .tup []]], .tup [.tup [], .tup [], .tup [], .tup [], .tup [], .tup []], .tup [.tup [.tup [], .tup [], .tup [], .tup [], .tup []]], .tup [.tup [.tup [], .tup [], .tup [], .tup [], .tup []]], .tup [.tup [.tup [], .tup [], .tup [], .tup [], .tup []]], .tup [.tup [.tup [], .tup [], .tup [], .tup [], .tup []]], .tup [.tup [.tup [], .tup [], .tup [], .tup [], .tup []]]]),
  (.tup [.tup [.tup [], .tup [], .tup [], .tup [.tup []]]], [.tup [.tup [.tup [], .tup [], .tup [], .tup [.tup []]]], .tup [.tup [], .tup [], .tup [], .tup [], .tup [.tup []]], .tup [.tup [.tup [], .tup [], .tup [], .tup [.tup []]]], .tup [.tup [.tup [], .tup [], .tup [], .tup [.tup []]]], .tup [.tup [.tup [], .tup [], .tup [], .tup [.tup []]]], .tup [.tup [], .tup [.tup [], .tup [], .tup [], .tup []]], .tup [.tup [.tup [.tup [], .tup [], .tup [], .tup []]]]]),
  (.tup [.tup [.tup [], .tup [], .tup [.tup [], .tup []]]], [.tup [.tup [.tup [], .tup [], .tup [.tup [], .tup []]]], .tup [.tup [], .tup [], .tup [], .tup [.tup [], .tup []]], .tup [.tup [.tup [], .tup [], .tup [.tup [], .tup []]]], .tup [.tup [.tup [], .tup [], .tup [.tup [], .tup []]]], .tup [.tup [], .tup [], .tup [.tup [], .tup [], .tup []]], .tup [.tup [.tup [], .tup [.tup [], .tup [], .tup []]]], .tup [.tup [.tup [], .tup [.tup [], .tup [], .tup []]]]]),
  (.tup [.tup [.tup [], .tup [], .tup [.tup [.tup []]]]], [.tup [.tup [.tup [], .tup [], .tup [.tup [.tup []]]]], .tup [.tup [], .tup [], .tup [], .tup [.tup [.tup []]]], .tup [.tup [.tup [], .tup [], .tup [.tup [.tup []]]]], .tup [.tup [.tup [], .tup [], .tup [.tup [.tup []]]]], .tup [.tup [.tup []], .tup [.tup [], .tup [], .tup []]], .tup [.tup [], .tup [.tup [.tup [], .tup [], .tup []]]], .tup [.tup [.tup [.tup [.tup [], .tup [], .tup []]]]]]),
  (.tup [.tup [.tup [], .tup [.tup []], .tup [.tup []]]], [.tup [.tup [.tup [], .tup [.tup []], .tup [.tup []]]], .tup [.tup [], .tup [], .tup [.tup []], .tup [.tup []]], .tup [.tup [.tup [], .tup [.tup []], .tup [.tup []]]], .tup [.tup [], .tup [.tup [], .tup [], .tup [.tup []]]], .tup [.tup [.tup [.tup [], .tup [], .tup [.tup []]]]], .tup [.tup [], .tup [.tup [], .tup [], .tup [.tup []]]], .tup [.tup [.tup [.tup [], .tup [], .tup [.tup []]]]]]),
  (.tup [.tup [.tup [], .tup [.tup [], .tup [], .tup []]]], [.tup [.tup [.tup [], .tup [.tup [], .tup [], .tup []]]], .tup [.tup [], .tup [], .tup [.tup [], .tup [], .tup []]], .tup [.tup [.tup [], .tup [.tup [], .tup [], .tup []]]], .tup [.tup [], .tup [], .tup [], .tup [.tup [], .tup []]], .tup [.tup [.tup [], .tup [], .tup [.tup [], .tup []]]], .tup [.tup [.tup [], .tup [], .tup [.tup [], .tup []]]], .tup [.tup [.tup [], .tup [], .tup [.tup [], .tup []]]]]),
  (.tup [.tup [.tup [], .tup [.tup [], .tup [.tup []]]]], [.tup [.tup [.tup [], .tup [.tup [], .tup [.tup []]]]], .tup [.tup [], .tup [], .tup [.tup [], .tup [.tup []]]], .tup [.tup [.tup [], .tup [.tup [], .tup [.tup []]]]], .tup [.tup [], .tup [.tup []], .tup [.tup [], .tup []]], .tup [.tup [.tup [.tup []], .tup [.tup [], .tup []]]], .tup [.tup [], .tup [.tup [], .tup [.tup [], .tup []]]], .tup [.tup [.tup [.tup [], .tup [.tup [], .tup []]]]]]),
  (.tup [.tup [.tup [], .tup [.tup [.tup [], .tup []]]]], [.tup [.tup [.tup [], .tup [.tup [.tup [], .tup []]]]], .tup [.tup [], .tup [], .tup [.tup [.tup [], .tup []]]], .tup [.tup [.tup [], .tup [.tup [.tup [], .tup []]]]], .tup [.tup [.tup [], .tup []], .tup [.tup [], .tup []]], .tup [.tup [], .tup [], .tup [.tup [.tup [], .tup []]]], .tup [.tup [.tup [], .tup [.tup [.tup [], .tup []]]]], .tup [.tup [.tup [], .tup [.tup [.tup [], .tup []]]]]]),
  (.tup [.tup [.tup [], .tup [.tup [.tup [.tup []]]]]], [.tup [.tup [.tup [], .tup [.tup [.tup [.tup []]]]]], .tup [.tup [], .tup [], .tup [.tup [.tup [.tup []]]]], .tup [.tup [.tup [], .tup [.tup [.tup [.tup []]]]]], .tup [.tup [.tup [], .tup []], .tup [.tup [.tup []]]], .tup [.tup [.tup []], .tup [.tup [.tup [], .tup []]]], .tup [.tup [], .tup [.tup [.tup [.tup [], .tup []]]]], .tup [.tup [.tup [.tup [.tup [.tup [], .tup []]]]]]]),
  (.tup [.tup [.tup [.tup []]], .tup [.tup [.tup []]]], [.tup [.tup [.tup [.tup []]], .tup [.tup [.tup []]]], .tup [.tup [.tup []], .tup [.tup [.tup [.tup []]]]], .tup [.tup [], .tup [.tup [.tup [.tup [.tup []]]]]], .tup [.tup [.tup [.tup [.tup [.tup [.tup []]]]]]], .tup [.tup [.tup []], .tup [.tup [.tup [.tup []]]]], .tup [.tup [], .tup [.tup [.tup [.tup [.tup []]]]]], .tup [.tup [.tup [.tup [.tup [.tup [.tup []]]]]]]]),
  (.tup [.tup [.tup [.tup []], .tup [.tup [], .tup []]]], [.tup [.tup [.tup [.tup []], .tup [.tup [], .tup []]]], .tup [.tup [], .tup [.tup []], .tup [.tup [], .tup []]], .tup [.tup [], .tup [.tup [], .tup [.tup [], .tup []]]], .tup [.tup [.tup [.tup [], .tup [.tup [], .tup []]]]], .tup [.tup [], .tup [], .tup [.tup [], .tup [.tup []]]], .tup [.tup [.tup [], .tup [.tup [], .tup [.tup []]]]], .tup [.tup [.tup [], .tup [.tup [], .tup [.tup []]]]]]),
  (.tup [.tup [.tup [.tup []], .tup [.tup [.tup []]]]], [.tup [.tup [.tup [.tup []], .tup [.tup [.tup []]]]], .tup [.tup [], .tup [.tup []], .tup [.tup [.tup []]]], .tup [.tup [], .tup [.tup [], .tup [.tup [.tup []]]]], .tup [.tup [.tup [.tup [], .tup [.tup [.tup []]]]]], .tup [.tup [.tup []], .tup [.tup [], .tup [.tup []]]], .tup [.tup [], .tup [.tup [.tup [], .tup [.tup []]]]], .tup [.tup [.tup [.tup [.tup [], .tup [.tup []]]]]]]),
  (.tup [.tup [.tup [.tup [], .tup [], .tup [], .tup []]]], [.tup [.tup [.tup [.tup [], .tup [], .tup [], .tup []]]], .tup [.tup [], .tup [.tup [], .tup [], .tup [], .tup []]], .tup [.tup [], .tup [], .tup [], .tup [], .tup [.tup []]], .tup [.tup [.tup [], .tup [], .tup [], .tup [.tup []]]], .tup [.tup [.tup [], .tup [], .tup [], .tup [.tup []]]], .tup [.tup [.tup [], .tup [], .tup [], .tup [.tup []]]], .tup [.tup [.tup [], .tup [], .tup [], .tup [.tup []]]]]),
  (.tup [.tup [.tup [.tup [], .tup [], .tup [.tup []]]]], [.tup [.tup [.tup [.tup [], .tup [], .tup [.tup []]]]], .tup [.tup [], .tup [.tup [], .tup [], .tup [.tup []]]], .tup [.tup [], .tup [], .tup [.tup []], .tup [.tup []]], .tup [.tup [.tup [], .tup [.tup []], .tup [.tup []]]], .tup [.tup [.tup [], .tup [.tup []], .tup [.tup []]]], .tup [.tup [], .tup [.tup [], .tup [], .tup [.tup []]]], .tup [.tup [.tup [.tup [], .tup [], .tup [.tup []]]]]]),
  (.tup [.tup [.tup [.tup [], .tup [.tup [], .tup []]]]], [.tup [.tup [.tup [.tup [], .tup [.tup [], .tup []]]]], .tup [.tup [], .tup [.tup [], .tup [.tup [], .tup []]]], .tup [.tup [], .tup [.tup []], .tup [.tup [], .tup []]], .tup [.tup [.tup [.tup []], .tup [.tup [], .tup []]]], .tup [.tup [], .tup [], .tup [.tup [], .tup [.tup []]]], .tup [.tup [.tup [], .tup [.tup [], .tup [.tup []]]]], .tup [.tup [.tup [], .tup [.tup [], .tup [.tup []]]]]]),
  (.tup [.tup [.tup [.tup [], .tup [.tup [.tup []]]]]], [.tup [.tup [.tup [.tup [], .tup [.tup [.tup []]]]]], .tup [.tup [], .tup [.tup [], .tup [.tup [.tup []]]]], .tup [.tup [], .tup [.tup []], .tup [.tup [.tup []]]], .tup [.tup [.tup [.tup []], .tup [.tup [.tup []]]]], .tup [.tup [.tup []], .tup [.tup [], .tup [.tup []]]], .tup [.tup [], .tup [.tup [.tup [], .tup [.tup []]]]], .tup [.tup [.tup [.tup [.tup [], .tup [.tup []]]]]]]),
  (.tup [.tup [.tup [.tup [.tup []], .tup [.tup []]]]], [.tup [.tup [.tup [.tup [.tup []], .tup [.tup []]]]], .tup [.tup [], .tup [.tup [.tup []], .tup [.tup []]]], .tup [.tup [.tup []], .tup [.tup []], .tup [.tup []]], .tup [.tup [], .tup [.tup [.tup []], .tup [.tup []]]], .tup [.tup [.tup [.tup [.tup []], .tup [.tup []]]]], .tup [.tup [], .tup [.tup [.tup []], .tup [.tup []]]], .tup [.tup [.tup [.tup [.tup []], .tup [.tup []]]]]]),
  (.tup [.tup [.tup [.tup [.tup [], .tup [], .tup []]]]], [.tup [.tup [.tup [.tup [.tup [], .tup [], .tup []]]]], .tup [.tup [], .tup [.tup [.tup [], .tup [], .tup []]]], .tup [.tup [.tup []], .tup [.tup [], .tup [], .tup []]], .tup [.tup [], .tup [], .tup [], .tup [.tup [.tup []]]], .tup [.tup [.tup [], .tup [], .tup [.tup [.tup []]]]], .tup [.tup [.tup [], .tup [], .tup [.tup [.tup []]]]], .tup [.tup [.tup [], .tup [], .tup [.tup [.tup []]]]]]),
  (.tup [.tup [.tup [.tup [.tup [], .tup [.tup []]]]]], [.tup [.tup [.tup [.tup [.tup [], .tup [.tup []]]]]], .tup [.tup [], .tup [.tup [.tup [], .tup [.tup []]]]], .tup [.tup [.tup []], .tup [.tup [], .tup [.tup []]]], .tup [.tup [], .tup [.tup []], .tup [.tup [.tup []]]], .tup [.tup [.tup [.tup []], .tup [.tup [.tup []]]]], .tup [.tup [], .tup [.tup [], .tup [.tup [.tup []]]]], .tup [.tup [.tup [.tup [], .tup [.tup [.tup []]]]]]]),
  (.tup [.tup [.tup [.tup [.tup [.tup [], .tup []]]]]], [.tup [.tup [.tup [.tup [.tup [.tup [], .tup []]]]]], .tup [.tup [], .tup [.tup [.tup [.tup [], .tup []]]]], .tup [.tup [.tup []], .tup [.tup [.tup [], .tup []]]], .tup [.tup [.tup [], .tup []], .tup [.tup [.tup []]]], .tup [.tup [], .tup [], .tup [.tup [.tup [.tup []]]]], .tup [.tup [.tup [], .tup [.tup [.tup [.tup []]]]]], .tup [.tup [.tup [], .tup [.tup [.tup [.tup []]]]]]]),
  (.tup [.tup [.tup [.tup [.tup [.tup [.tup []]]]]]], [.tup [.tup [.tup [.tup [.tup [.tup [.tup []]]]]]], .tup [.tup [], .tup [.tup [.tup [.tup [.tup []]]]]], .tup [.tup [.tup []], .tup [.tup [.tup [.tup []]]]], .tup [.tup [.tup [.tup []]], .tup [.tup [.tup []]]], .tup [.tup [.tup []], .tup [.tup [.tup [.tup []]]]], .tup [.tup [], .tup [.tup [.tup [.tup [.tup []]]]]], .tup [.tup [.tup [.tup [.tup [.tup [.tup []]]]]]]])]
theorem forest_flat : D.flats forest = true := by decide +kernel
theorem sc_tupled : FnScope ["thing", "part"] ["thing"] (defScope (top 3)) := ⟨rfl, rfl, rfl, by decide +kernel, rfl, by decide +kernel, by decide +kernel⟩
def b_tupled (self : FA) : MS :=
    (mRet (mIf (mTV (mUn (isiF [.lst, .tup]) (mVar 0))) (mCall (fa1 tupF) (mCons (mLc (mSeqI (mVar 0)) (gN 1) mYes (mCallF 1 self (mCons (mVar 1) mNil)) [1]) mNil)) (mVar 0)))
def m_tupled : Nat → FA := mRecF 1 b_tupled
theorem c_tupled {P : Program} {w : World} {K : PySem.W.Frag} {mg : Str → Option Value} {base : Heap} (T : Top K mg) (k : Nat) : CallM P w K mg base (0 + k + 1) 1 "tupled" (m_tupled k) := by
  obtain ⟨fd, F, hm⟩ := T.def_ 0 (d := dd "tupled" 3) rfl rfl
  refine call_recF (st := top 3) F sc_tupled hm rfl rfl (fun _ _ _ _ _ _ us hl => match us, hl with | [_], _ => rfl) (fun self k cself cdv A outer s H E hr => ?_) k
  have S := sc_tupled
  exact (iss_one (is_ret (ie_if (it_val (ie_isi2 .lst .tup (ie_var (pv 0)) rfl (T.free 119 rfl) rfl (T.free 121 rfl) (by decide +kernel) rfl (T.free 129 rfl) (by decide +kernel))) (ie_callTy call_tupD rfl (T.free 129 rfl) (by decide +kernel) (ia_cons (ie_lc (own := [("part", 1)]) rfl S.nd (ii_seq (ie_var (pv 0))) (blkOk_by (by kernel_rfl)) (fun _ _ _ _ _ => (ij_name (i := 1) S.nd rfl (.inl rfl))) (fun _ _ _ _ _ => its_nil) (fun _ _ _ _ _ => (ie_call cself (hr.mono (by omega)) rfl (ia_cons (ie_var (pv 1)) ia_nil))) (by decide)) ia_nil)) (ie_var (pv 0)))))
theorem sc_is_number : FnScope ["thing"] ["thing"] (defScope (top 4)) := ⟨rfl, rfl, rfl, by decide +kernel, rfl, by decide +kernel, by decide +kernel⟩
def m_is_number : FA := flatF ( mDef 0
    (mRet (mAndV (mUn (isiF [.int]) (mVar 0)) (mNotV (mUn (isiF [.bl]) (mVar 0))))))
theorem c_is_number {P : Program} {w : World} {K : PySem.W.Frag} {mg : Str → Option Value} {base : Heap} (T : Top K mg) : CallM P w K mg base 1 1 "is_number" m_is_number := by
  obtain ⟨fd, F, hm⟩ := T.def_ 1 (d := dd "is_number" 4) rfl rfl
  refine CallM.flat (call_def (st := top 4) F sc_is_number hm rfl rfl (fun _ _ _ _ _ _ us hl => match us, hl with | [_], _ => rfl) (fun cdv A outer s H E hr => ?_))
  have S := sc_is_number
  exact (iss_one (is_ret (ie_and (ie_isi .int (ie_var (pv 0)) rfl (T.free 119 rfl) rfl (T.free 118 rfl) (by decide +kernel)) (ie_one (ie_not (ie_isi .bl (ie_var (pv 0)) rfl (T.free 119 rfl) rfl (T.free 116 rfl) (by decide +kernel)))))))
theorem sc_is_count : FnScope ["thing"] ["thing"] (defScope (top 5)) := ⟨rfl, rfl, rfl, by decide +kernel, rfl, by decide +kernel, by decide +kernel⟩
def m_is_count : FA := flatF ( mDef 0
    (mRet (mAndV (mCallF 1 m_is_number (mCons (mVar 0) mNil)) (mBin (cmpD oGe) (mVar 0) (mC (.int 0))))))
theorem c_is_count {P : Program} {w : World} {K : PySem.W.Frag} {mg : Str → Option Value} {base : Heap} (T : Top K mg) : CallM P w K mg base 2 1 "is_count" m_is_count := by
  obtain ⟨fd, F, hm⟩ := T.def_ 2 (d := dd "is_count" 5) rfl rfl
  refine CallM.flat (call_def (st := top 5) F sc_is_count hm rfl rfl (fun _ _ _ _ _ _ us hl => match us, hl with | [_], _ => rfl) (fun cdv A outer s H E hr => ?_))
  have S := sc_is_count
  exact (iss_one (is_ret (ie_and (ie_call (c_is_number T) (hr.mono (by omega)) rfl (ia_cons (ie_var (pv 0)) ia_nil)) (ie_one (ie_cmp (op_geD hr.u64) (ie_var (pv 0)) ie_int)))))
theorem sc_is_below : FnScope ["thing", "bound"] ["thing", "bound"] (defScope (top 6)) := ⟨rfl, rfl, rfl, by decide +kernel, rfl, by decide +kernel, by decide +kernel⟩
def m_is_below : FA := flatF ( mDef 0
    (mRet (mAndV (mCallF 1 m_is_count (mCons (mVar 0) mNil)) (mBin (cmpD oLt) (mVar 0) (mVar 1)))))
theorem c_is_below {P : Program} {w : World} {K : PySem.W.Frag} {mg : Str → Option Value} {base : Heap} (T : Top K mg) : CallM P w K mg base 3 2 "is_below" m_is_below := by
  obtain ⟨fd, F, hm⟩ := T.def_ 3 (d := dd "is_below" 6) rfl rfl
  refine CallM.flat (call_def (st := top 6) F sc_is_below hm rfl rfl (fun _ _ _ _ _ _ us hl => match us, hl with | [_, _], _ => rfl) (fun cdv A outer s H E hr => ?_))
  have S := sc_is_below
  exact (iss_one (is_ret (ie_and (ie_call (c_is_count T) (hr.mono (by omega)) rfl (ia_cons (ie_var (pv 0)) ia_nil)) (ie_one (ie_cmp (op_ltD hr.u64) (ie_var (pv 0)) (ie_var (pv 1)))))))
theorem sc_is_tuple_of : FnScope ["thing", "size"] ["thing", "size"] (defScope (top 7)) := ⟨rfl, rfl, rfl, by decide +kernel, rfl, by decide +kernel, by decide +kernel⟩
def m_is_tuple_of : FA := flatF ( mDef 0
    (mRet (mAndV (mUn (isiF [.tup]) (mVar 0)) (mBin eqD (mCall (fa1 lenF) (mCons (mVar 0) mNil)) (mVar 1)))))
theorem c_is_tuple_of {P : Program} {w : World} {K : PySem.W.Frag} {mg : Str → Option Value} {base : Heap} (T : Top K mg) : CallM P w K mg base 1 2 "is_tuple_of" m_is_tuple_of := by
  obtain ⟨fd, F, hm⟩ := T.def_ 4 (d := dd "is_tuple_of" 7) rfl rfl
  refine CallM.flat (call_def (st := top 7) F sc_is_tuple_of hm rfl rfl (fun _ _ _ _ _ _ us hl => match us, hl with | [_, _], _ => rfl) (fun cdv A outer s H E hr => ?_))
  have S := sc_is_tuple_of
  exact (iss_one (is_ret (ie_and (ie_isi .tup (ie_var (pv 0)) rfl (T.free 119 rfl) rfl (T.free 129 rfl) (by decide +kernel)) (ie_one (ie_cmp (op_eqDD hr.u64) (ie_callB call_lenD rfl (T.free 120 rfl) PySem.boot_len (ia_cons (ie_var (pv 0)) ia_nil)) (ie_var (pv 1)))))))
theorem sc_set_of : FnScope ["things"] ["things"] (defScope (top 8)) := ⟨rfl, rfl, rfl, by decide +kernel, rfl, by decide +kernel, by decide +kernel⟩
def m_set_of : FA := flatF ( mDef 0
    (mRet (mCall (fa1 tupF) (mCons (mUn ssetF (mVar 0)) mNil))))
theorem c_set_of {P : Program} {w : World} {K : PySem.W.Frag} {mg : Str → Option Value} {base : Heap} (T : Top K mg) : CallM P w K mg base 1 1 "set_of" m_set_of := by
  obtain ⟨fd, F, hm⟩ := T.def_ 5 (d := dd "set_of" 8) rfl rfl
  refine CallM.flat (call_def (st := top 8) F sc_set_of hm rfl rfl (fun _ _ _ _ _ _ us hl => match us, hl with | [_], _ => rfl) (fun cdv A outer s H E hr => ?_))
  have S := sc_set_of
  exact (iss_one (is_ret (ie_callTy call_tupD rfl (T.free 129 rfl) (by decide +kernel) (ia_cons (ie_sset rfl hr.u64 (ie_var (pv 0)) rfl (T.free 126 rfl) rfl (T.free 125 rfl)) ia_nil))))
theorem sc_sure_number : FnScope ["number"] ["number"] (defScope (top 9)) := ⟨rfl, rfl, rfl, by decide +kernel, rfl, by decide +kernel, by decide +kernel⟩
def m_sure_number : FA := flatF ( mDef 0
    (mSeq (mIfS (mNot (mTV (mCallF 1 m_is_number (mCons (mVar 0) mNil)))) mErr mNext)
    (mRet (mVar 0))))
theorem c_sure_number {P : Program} {w : World} {K : PySem.W.Frag} {mg : Str → Option Value} {base : Heap} (T : Top K mg) : CallM P w K mg base 2 1 "sure_number" m_sure_number := by
  obtain ⟨fd, F, hm⟩ := T.def_ 6 (d := dd "sure_number" 9) rfl rfl
  refine CallM.flat (call_def (st := top 9) F sc_sure_number hm rfl rfl (fun _ _ _ _ _ _ us hl => match us, hl with | [_], _ => rfl) (fun cdv A outer s H E hr => ?_))
  have S := sc_sure_number
  exact (iss_cons (is_if (it_not (it_val (ie_call (c_is_number T) (hr.mono (by omega)) rfl (ia_cons (ie_var (pv 0)) ia_nil)))) (iss_one is_never) iss_nil)
    (iss_one (is_ret (ie_var (pv 0)))))
theorem sc_sure_count : FnScope ["number"] ["number"] (defScope (top 10)) := ⟨rfl, rfl, rfl, by decide +kernel, rfl, by decide +kernel, by decide +kernel⟩
def m_sure_count : FA := flatF ( mDef 0
    (mSeq (mIfS (mNot (mTV (mCallF 1 m_is_count (mCons (mVar 0) mNil)))) mErr mNext)
    (mRet (mVar 0))))
theorem c_sure_count {P : Program} {w : World} {K : PySem.W.Frag} {mg : Str → Option Value} {base : Heap} (T : Top K mg) : CallM P w K mg base 3 1 "sure_count" m_sure_count := by
  obtain ⟨fd, F, hm⟩ := T.def_ 7 (d := dd "sure_count" 10) rfl rfl
  refine CallM.flat (call_def (st := top 10) F sc_sure_count hm rfl rfl (fun _ _ _ _ _ _ us hl => match us, hl with | [_], _ => rfl) (fun cdv A outer s H E hr => ?_))
  have S := sc_sure_count
  exact (iss_cons (is_if (it_not (it_val (ie_call (c_is_count T) (hr.mono (by omega)) rfl (ia_cons (ie_var (pv 0)) ia_nil)))) (iss_one is_never) iss_nil)
    (iss_one (is_ret (ie_var (pv 0)))))
theorem sc_sure_within : FnScope ["number", "low", "high"] ["number", "low", "high"] (defScope (top 11)) := ⟨rfl, rfl, rfl, by decide +kernel, rfl, by decide +kernel, by decide +kernel⟩
def m_sure_within : FA := flatF ( mDef 0
    (mSeq (mIfS (mOr (mNot (mTV (mCallF 1 m_is_number (mCons (mVar 0) mNil)))) (mNot (mTB (mChain (cmpD oLe) (cmpD oLe) (mVar 1) (mVar 0) (mVar 2))))) mErr mNext)
    (mRet (mVar 0))))
theorem c_sure_within {P : Program} {w : World} {K : PySem.W.Frag} {mg : Str → Option Value} {base : Heap} (T : Top K mg) : CallM P w K mg base 2 3 "sure_within" m_sure_within := by
  obtain ⟨fd, F, hm⟩ := T.def_ 8 (d := dd "sure_within" 11) rfl rfl
  refine CallM.flat (call_def (st := top 11) F sc_sure_within hm rfl rfl (fun _ _ _ _ _ _ us hl => match us, hl with | [_, _, _], _ => rfl) (fun cdv A outer s H E hr => ?_))
  have S := sc_sure_within
  exact (iss_cons (is_if (it_w (iw_or (it_not (it_val (ie_call (c_is_number T) (hr.mono (by omega)) rfl (ia_cons (ie_var (pv 0)) ia_nil)))) (iw_or1 (it_not (it_chain (op_leD hr.u64) (op_leD hr.u64) (ie_var (pv 1)) (ie_var (pv 0)) (ie_var (pv 2))))))) (iss_one is_never) iss_nil)
    (iss_one (is_ret (ie_var (pv 0)))))
theorem sc_shared : FnScope ["one", "other", "near", "far"] ["one", "other"] (defScope (top 13)) := ⟨rfl, rfl, rfl, by decide +kernel, rfl, by decide +kernel, by decide +kernel⟩
def m_shared : FA := flatF ( mDef 2
    (mSeq (mPar 2 3 (mCons (mCall (fa1 absF) (mCons (mVar 0) mNil)) (mCons (mCall (fa1 absF) (mCons (mVar 1) mNil)) mNil)))
    (mSeq (mWhile 300 (mTB (mBin (cmpD oGt) (mVar 3) (mC (.int 0)))) (mPar 2 3 (mCons (mVar 3) (mCons (mBin modD (mVar 2) (mVar 3)) mNil))))
    (mRet (mVar 2)))))
theorem c_shared {P : Program} {w : World} {K : PySem.W.Frag} {mg : Str → Option Value} {base : Heap} (T : Top K mg) : CallM P w K mg base 1 2 "shared" m_shared := by
  obtain ⟨fd, F, hm⟩ := T.def_ 9 (d := dd "shared" 13) rfl rfl
  refine CallM.flat (call_def (st := top 13) F sc_shared hm rfl rfl (fun _ _ _ _ _ _ us hl => match us, hl with | [_, _], _ => rfl) (fun cdv A outer s H E hr => ?_))
  have S := sc_shared
  exact (iss_cons (is_par (i := 2) (j := 3) rfl S.nd rfl rfl (by decide) rfl rfl (ia_cons (ie_callB call_absD rfl (T.free 114 rfl) (by decide +kernel) (ia_cons (ie_var (pv 0)) ia_nil)) (ia_cons (ie_callB call_absD rfl (T.free 114 rfl) (by decide +kernel) (ia_cons (ie_var (pv 1)) ia_nil)) ia_nil)))
    (iss_cons (is_while PassesOwn.never (it_cmp (op_gtD hr.u64) (ie_var (pv 3)) ie_int) (iss_one (is_par (i := 2) (j := 3) rfl S.nd rfl rfl (by decide) rfl rfl (ia_cons (ie_var (pv 3)) (ia_cons (ie_bin op_modD (ie_var (pv 2)) (ie_var (pv 3))) ia_nil)))))
    (iss_one (is_ret (ie_var (pv 2))))))
theorem sc_made : FnScope ["top", "bottom", "much", "sign"] ["top", "bottom"] (defScope (top 14)) := ⟨rfl, rfl, rfl, by decide +kernel, rfl, by decide +kernel, by decide +kernel⟩
def m_made : FA := flatF ( mDef 2
    (mSeq (mSet 2 (mCallF 2 m_shared (mCons (mVar 0) (mCons (mVar 1) mNil))))
    (mSeq (mSet 3 (mIf (mTB (mBin (cmpD oGt) (mVar 1) (mC (.int 0)))) (mC (.int 1)) (mUn negD (mC (.int 1)))))
    (mRet (mTup (mCons (mBin divD (mBin mulD (mVar 3) (mVar 0)) (mVar 2)) (mCons (mBin divD (mBin mulD (mVar 3) (mVar 1)) (mVar 2)) mNil)))))))
theorem c_made {P : Program} {w : World} {K : PySem.W.Frag} {mg : Str → Option Value} {base : Heap} (T : Top K mg) : CallM P w K mg base 2 2 "made" m_made := by
  obtain ⟨fd, F, hm⟩ := T.def_ 10 (d := dd "made" 14) rfl rfl
  refine CallM.flat (call_def (st := top 14) F sc_made hm rfl rfl (fun _ _ _ _ _ _ us hl => match us, hl with | [_, _], _ => rfl) (fun cdv A outer s H E hr => ?_))
  have S := sc_made
  exact (iss_cons (is_set (i := 2) S.nd rfl (.inl rfl) (ie_call (c_shared T) (hr.mono (by omega)) rfl (ia_cons (ie_var (pv 0)) (ia_cons (ie_var (pv 1)) ia_nil))))
    (iss_cons (is_set (i := 3) S.nd rfl (.inl rfl) (ie_if (it_cmp (op_gtD hr.u64) (ie_var (pv 1)) ie_int) ie_int (ie_neg ie_int)))
    (iss_one (is_ret (ie_tup (ia_cons (ie_bin op_divD (ie_bin op_mulD (ie_var (pv 3)) (ie_var (pv 0))) (ie_var (pv 2))) (ia_cons (ie_bin op_divD (ie_bin op_mulD (ie_var (pv 3)) (ie_var (pv 1))) (ie_var (pv 2))) ia_nil)))))))
theorem sc_is_sorted : FnScope ["thing", "near", "far"] ["thing"] (defScope (top 17)) := ⟨rfl, rfl, rfl, by decide +kernel, rfl, by decide +kernel, by decide +kernel⟩
def m_is_sorted : FA := flatF ( mDef 2
    (mRet (mCall (fa1 allF) (mCons (mLc (mZipI (mCons (mVar 0) (mCons (mSlice (mVar 0) (mPart (mC (.int 1))) mNoPart) mNil))) (gTupM 2 (gsCons (gN 1) (gsCons (gN 2) gsNil))) mYes (mBin (cmpD oLe) (mVar 1) (mVar 2)) [1, 2]) mNil))))
theorem c_is_sorted {P : Program} {w : World} {K : PySem.W.Frag} {mg : Str → Option Value} {base : Heap} (T : Top K mg) : CallM P w K mg base 1 1 "is_sorted" m_is_sorted := by
  obtain ⟨fd, F, hm⟩ := T.def_ 11 (d := dd "is_sorted" 17) rfl rfl
  refine CallM.flat (call_def (st := top 17) F sc_is_sorted hm rfl rfl (fun _ _ _ _ _ _ us hl => match us, hl with | [_], _ => rfl) (fun cdv A outer s H E hr => ?_))
  have S := sc_is_sorted
  exact (iss_one (is_ret (ie_callB (call_allD rfl) rfl (T.free 115 rfl) (by decide +kernel) (ia_cons (ie_lc (own := [("near", 1), ("far", 2)]) rfl S.nd (ii_zip rfl (T.free 130 rfl) (ia_cons (ie_var (pv 0)) (ia_cons (ie_slice (ie_var (pv 0)) (io_some ie_int) io_none) ia_nil))) (blkOk_by (by kernel_rfl)) (fun _ _ _ _ _ => (ij_tup rfl (ijs_cons (ij_name (i := 1) S.nd rfl (.inl rfl)) (ijs_cons (ij_name (i := 2) S.nd rfl (.inl rfl)) ijs_nil)))) (fun _ _ _ _ _ => its_nil) (fun _ _ _ _ _ => (ie_cmp (op_leD hr.u64) (ie_var (pv 1)) (ie_var (pv 2)))) (by decide)) ia_nil))))
theorem sc_is_tree : FnScope ["thing", "part"] ["thing"] (defScope (top 18)) := ⟨rfl, rfl, rfl, by decide +kernel, rfl, by decide +kernel, by decide +kernel⟩
def b_is_tree (self : FA) : MS :=
    (mSeq (mIfS (mOr (mNot (mTV (mUn (isiF [.tup]) (mVar 0)))) (mNot (mTV (mCall (fa1 allF) (mCons (mLc (mSeqI (mVar 0)) (gN 1) mYes (mCallF 1 self (mCons (mVar 1) mNil)) [1]) mNil))))) (mRet (mC (.bl false))) mNext)
    (mRet (mCallF 1 m_is_sorted (mCons (mVar 0) mNil))))
def m_is_tree : Nat → FA := mRecF 1 b_is_tree
theorem c_is_tree {P : Program} {w : World} {K : PySem.W.Frag} {mg : Str → Option Value} {base : Heap} (T : Top K mg) (k : Nat) : CallM P w K mg base (1 + k + 1) 1 "is_tree" (m_is_tree k) := by
  obtain ⟨fd, F, hm⟩ := T.def_ 12 (d := dd "is_tree" 18) rfl rfl
  refine call_recF (st := top 18) F sc_is_tree hm rfl rfl (fun _ _ _ _ _ _ us hl => match us, hl with | [_], _ => rfl) (fun self k cself cdv A outer s H E hr => ?_) k
  have S := sc_is_tree
  exact (iss_cons (is_if (it_w (iw_or (it_not (it_val (ie_isi .tup (ie_var (pv 0)) rfl (T.free 119 rfl) rfl (T.free 129 rfl) (by decide +kernel)))) (iw_or1 (it_not (it_val (ie_callB (call_allD rfl) rfl (T.free 115 rfl) (by decide +kernel) (ia_cons (ie_lc (own := [("part", 1)]) rfl S.nd (ii_seq (ie_var (pv 0))) (blkOk_by (by kernel_rfl)) (fun _ _ _ _ _ => (ij_name (i := 1) S.nd rfl (.inl rfl))) (fun _ _ _ _ _ => its_nil) (fun _ _ _ _ _ => (ie_call cself (hr.mono (by omega)) rfl (ia_cons (ie_var (pv 1)) ia_nil))) (by decide)) ia_nil))))))) (iss_one (is_ret ie_bl)) iss_nil)
    (iss_one (is_ret (ie_call (c_is_sorted T) (hr.mono (by omega)) rfl (ia_cons (ie_var (pv 0)) ia_nil)))))
theorem sc_sure_tree : FnScope ["tree", "own"] ["tree"] (defScope (top 19)) := ⟨rfl, rfl, rfl, by decide +kernel, rfl, by decide +kernel, by decide +kernel⟩
def m_sure_tree : FA := flatF ( mDef 1
    (mSeq (mSet 1 (mCallF 1 (m_tupled 12) (mCons (mVar 0) mNil)))
    (mSeq (mIfS (mNot (mTV (mCallF 1 (m_is_tree 12) (mCons (mVar 1) mNil)))) mErr mNext)
    (mRet (mVar 1)))))
theorem c_sure_tree {P : Program} {w : World} {K : PySem.W.Frag} {mg : Str → Option Value} {base : Heap} (T : Top K mg) : CallM P w K mg base 15 1 "sure_tree" m_sure_tree := by
  obtain ⟨fd, F, hm⟩ := T.def_ 13 (d := dd "sure_tree" 19) rfl rfl
  refine CallM.flat (call_def (st := top 19) F sc_sure_tree hm rfl rfl (fun _ _ _ _ _ _ us hl => match us, hl with | [_], _ => rfl) (fun cdv A outer s H E hr => ?_))
  have S := sc_sure_tree
  exact (iss_cons (is_set (i := 1) S.nd rfl (.inl rfl) (ie_call (c_tupled T 12) (hr.mono (by omega)) rfl (ia_cons (ie_var (pv 0)) ia_nil)))
    (iss_cons (is_if (it_not (it_val (ie_call (c_is_tree T 12) (hr.mono (by omega)) rfl (ia_cons (ie_var (pv 1)) ia_nil)))) (iss_one is_never) iss_nil)
    (iss_one (is_ret (ie_var (pv 1))))))
theorem sc_size_in : FnScope ["tree", "part"] ["tree"] (defScope (top 20)) := ⟨rfl, rfl, rfl, by decide +kernel, rfl, by decide +kernel, by decide +kernel⟩
def b_size_in (self : FA) : MS :=
    (mRet (mBin addD (mC (.int 1)) (mCall (fa1 sumF2) (mCons (mLc (mSeqI (mVar 0)) (gN 1) mYes (mCallF 1 self (mCons (mVar 1) mNil)) [1]) mNil))))
def m_size_in : Nat → FA := mRecF 1 b_size_in
theorem c_size_in {P : Program} {w : World} {K : PySem.W.Frag} {mg : Str → Option Value} {base : Heap} (T : Top K mg) (k : Nat) : CallM P w K mg base (0 + k + 1) 1 "size_in" (m_size_in k) := by
  obtain ⟨fd, F, hm⟩ := T.def_ 14 (d := dd "size_in" 20) rfl rfl
  refine call_recF (st := top 20) F sc_size_in hm rfl rfl (fun _ _ _ _ _ _ us hl => match us, hl with | [_], _ => rfl) (fun self k cself cdv A outer s H E hr => ?_) k
  have S := sc_size_in
  exact (iss_one (is_ret (ie_bin op_addD ie_int (ie_callB (call_sumD2 rfl) rfl (T.free 128 rfl) (by decide +kernel) (ia_cons (ie_lc (own := [("part", 1)]) rfl S.nd (ii_seq (ie_var (pv 0))) (blkOk_by (by kernel_rfl)) (fun _ _ _ _ _ => (ij_name (i := 1) S.nd rfl (.inl rfl))) (fun _ _ _ _ _ => its_nil) (fun _ _ _ _ _ => (ie_call cself (hr.mono (by omega)) rfl (ia_cons (ie_var (pv 1)) ia_nil))) (by decide)) ia_nil)))))
theorem sc_size_of : FnScope ["tree"] ["tree"] (defScope (top 21)) := ⟨rfl, rfl, rfl, by decide +kernel, rfl, by decide +kernel, by decide +kernel⟩
def m_size_of : FA := flatF ( mDef 0
    (mRet (mCallF 1 (m_size_in 12) (mCons (mCallF 1 m_sure_tree (mCons (mVar 0) mNil)) mNil))))
theorem c_size_of {P : Program} {w : World} {K : PySem.W.Frag} {mg : Str → Option Value} {base : Heap} (T : Top K mg) : CallM P w K mg base 16 1 "size_of" m_size_of := by
  obtain ⟨fd, F, hm⟩ := T.def_ 15 (d := dd "size_of" 21) rfl rfl
  refine CallM.flat (call_def (st := top 21) F sc_size_of hm rfl rfl (fun _ _ _ _ _ _ us hl => match us, hl with | [_], _ => rfl) (fun cdv A outer s H E hr => ?_))
  have S := sc_size_of
  exact (iss_one (is_ret (ie_call (c_size_in T 12) (hr.mono (by omega)) rfl (ia_cons (ie_call (c_sure_tree T) (hr.mono (by omega)) rfl (ia_cons (ie_var (pv 0)) ia_nil)) ia_nil))))
theorem sc_depth_in : FnScope ["tree", "part"] ["tree"] (defScope (top 22)) := ⟨rfl, rfl, rfl, by decide +kernel, rfl, by decide +kernel, by decide +kernel⟩
def b_depth_in (self : FA) : MS :=
    (mRet (mIf (mTB (mBin neD (mVar 0) (mTup mNil))) (mBin addD (mC (.int 1)) (mCall (fa1 maxF2) (mCons (mLc (mSeqI (mVar 0)) (gN 1) mYes (mCallF 1 self (mCons (mVar 1) mNil)) [1]) mNil))) (mC (.int 1))))
def m_depth_in : Nat → FA := mRecF 1 b_depth_in
theorem c_depth_in {P : Program} {w : World} {K : PySem.W.Frag} {mg : Str → Option Value} {base : Heap} (T : Top K mg) (k : Nat) : CallM P w K mg base (0 + k + 1) 1 "depth_in" (m_depth_in k) := by
  obtain ⟨fd, F, hm⟩ := T.def_ 16 (d := dd "depth_in" 22) rfl rfl
  refine call_recF (st := top 22) F sc_depth_in hm rfl rfl (fun _ _ _ _ _ _ us hl => match us, hl with | [_], _ => rfl) (fun self k cself cdv A outer s H E hr => ?_) k
  have S := sc_depth_in
  exact (iss_one (is_ret (ie_if (it_cmp (op_neDD hr.u64) (ie_var (pv 0)) (ie_tup ia_nil)) (ie_bin op_addD ie_int (ie_callB (call_maxD2 rfl hr.u70) rfl (T.free 122 rfl) (by decide +kernel) (ia_cons (ie_lc (own := [("part", 1)]) rfl S.nd (ii_seq (ie_var (pv 0))) (blkOk_by (by kernel_rfl)) (fun _ _ _ _ _ => (ij_name (i := 1) S.nd rfl (.inl rfl))) (fun _ _ _ _ _ => its_nil) (fun _ _ _ _ _ => (ie_call cself (hr.mono (by omega)) rfl (ia_cons (ie_var (pv 1)) ia_nil))) (by decide)) ia_nil))) ie_int)))
theorem sc_depth_of : FnScope ["tree"] ["tree"] (defScope (top 23)) := ⟨rfl, rfl, rfl, by decide +kernel, rfl, by decide +kernel, by decide +kernel⟩
def m_depth_of : FA := flatF ( mDef 0
    (mRet (mCallF 1 (m_depth_in 12) (mCons (mCallF 1 m_sure_tree (mCons (mVar 0) mNil)) mNil))))
theorem c_depth_of {P : Program} {w : World} {K : PySem.W.Frag} {mg : Str → Option Value} {base : Heap} (T : Top K mg) : CallM P w K mg base 16 1 "depth_of" m_depth_of := by
  obtain ⟨fd, F, hm⟩ := T.def_ 17 (d := dd "depth_of" 23) rfl rfl
  refine CallM.flat (call_def (st := top 23) F sc_depth_of hm rfl rfl (fun _ _ _ _ _ _ us hl => match us, hl with | [_], _ => rfl) (fun cdv A outer s H E hr => ?_))
  have S := sc_depth_of
  exact (iss_one (is_ret (ie_call (c_depth_in T 12) (hr.mono (by omega)) rfl (ia_cons (ie_call (c_sure_tree T) (hr.mono (by omega)) rfl (ia_cons (ie_var (pv 0)) ia_nil)) ia_nil))))
theorem sc_leaves_in : FnScope ["tree", "part"] ["tree"] (defScope (top 24)) := ⟨rfl, rfl, rfl, by decide +kernel, rfl, by decide +kernel, by decide +kernel⟩
def b_leaves_in (self : FA) : MS :=
    (mRet (mIf (mTB (mBin neD (mVar 0) (mTup mNil))) (mCall (fa1 sumF2) (mCons (mLc (mSeqI (mVar 0)) (gN 1) mYes (mCallF 1 self (mCons (mVar 1) mNil)) [1]) mNil)) (mC (.int 1))))
def m_leaves_in : Nat → FA := mRecF 1 b_leaves_in
theorem c_leaves_in {P : Program} {w : World} {K : PySem.W.Frag} {mg : Str → Option Value} {base : Heap} (T : Top K mg) (k : Nat) : CallM P w K mg base (0 + k + 1) 1 "leaves_in" (m_leaves_in k) := by
  obtain ⟨fd, F, hm⟩ := T.def_ 18 (d := dd "leaves_in" 24) rfl rfl
  refine call_recF (st := top 24) F sc_leaves_in hm rfl rfl (fun _ _ _ _ _ _ us hl => match us, hl with | [_], _ => rfl) (fun self k cself cdv A outer s H E hr => ?_) k
  have S := sc_leaves_in
  exact (iss_one (is_ret (ie_if (it_cmp (op_neDD hr.u64) (ie_var (pv 0)) (ie_tup ia_nil)) (ie_callB (call_sumD2 rfl) rfl (T.free 128 rfl) (by decide +kernel) (ia_cons (ie_lc (own := [("part", 1)]) rfl S.nd (ii_seq (ie_var (pv 0))) (blkOk_by (by kernel_rfl)) (fun _ _ _ _ _ => (ij_name (i := 1) S.nd rfl (.inl rfl))) (fun _ _ _ _ _ => its_nil) (fun _ _ _ _ _ => (ie_call cself (hr.mono (by omega)) rfl (ia_cons (ie_var (pv 1)) ia_nil))) (by decide)) ia_nil)) ie_int)))
theorem sc_leaves_of : FnScope ["tree"] ["tree"] (defScope (top 25)) := ⟨rfl, rfl, rfl, by decide +kernel, rfl, by decide +kernel, by decide +kernel⟩
def m_leaves_of : FA := flatF ( mDef 0
    (mRet (mCallF 1 (m_leaves_in 12) (mCons (mCallF 1 m_sure_tree (mCons (mVar 0) mNil)) mNil))))
theorem c_leaves_of {P : Program} {w : World} {K : PySem.W.Frag} {mg : Str → Option Value} {base : Heap} (T : Top K mg) : CallM P w K mg base 16 1 "leaves_of" m_leaves_of := by
  obtain ⟨fd, F, hm⟩ := T.def_ 19 (d := dd "leaves_of" 25) rfl rfl
  refine CallM.flat (call_def (st := top 25) F sc_leaves_of hm rfl rfl (fun _ _ _ _ _ _ us hl => match us, hl with | [_], _ => rfl) (fun cdv A outer s H E hr => ?_))
  have S := sc_leaves_of
  exact (iss_one (is_ret (ie_call (c_leaves_in T 12) (hr.mono (by omega)) rfl (ia_cons (ie_call (c_sure_tree T) (hr.mono (by omega)) rfl (ia_cons (ie_var (pv 0)) ia_nil)) ia_nil))))
theorem sc_most_in : FnScope ["tree", "part"] ["tree"] (defScope (top 26)) := ⟨rfl, rfl, rfl, by decide +kernel, rfl, by decide +kernel, by decide +kernel⟩
def b_most_in (self : FA) : MS :=
    (mRet (mCall (fa1 maxF2) (mCons (mBin addD (mLst (mCons (mCall (fa1 lenF) (mCons (mVar 0) mNil)) mNil)) (mLc (mSeqI (mVar 0)) (gN 1) mYes (mCallF 1 self (mCons (mVar 1) mNil)) [1])) mNil)))
def m_most_in : Nat → FA := mRecF 1 b_most_in
theorem c_most_in {P : Program} {w : World} {K : PySem.W.Frag} {mg : Str → Option Value} {base : Heap} (T : Top K mg) (k : Nat) : CallM P w K mg base (0 + k + 1) 1 "most_in" (m_most_in k) := by
  obtain ⟨fd, F, hm⟩ := T.def_ 20 (d := dd "most_in" 26) rfl rfl
  refine call_recF (st := top 26) F sc_most_in hm rfl rfl (fun _ _ _ _ _ _ us hl => match us, hl with | [_], _ => rfl) (fun self k cself cdv A outer s H E hr => ?_) k
  have S := sc_most_in
  exact (iss_one (is_ret (ie_callB (call_maxD2 rfl hr.u70) rfl (T.free 122 rfl) (by decide +kernel) (ia_cons (ie_bin op_addD (ie_lst (ia_cons (ie_callB call_lenD rfl (T.free 120 rfl) PySem.boot_len (ia_cons (ie_var (pv 0)) ia_nil)) ia_nil)) (ie_lc (own := [("part", 1)]) rfl S.nd (ii_seq (ie_var (pv 0))) (blkOk_by (by kernel_rfl)) (fun _ _ _ _ _ => (ij_name (i := 1) S.nd rfl (.inl rfl))) (fun _ _ _ _ _ => its_nil) (fun _ _ _ _ _ => (ie_call cself (hr.mono (by omega)) rfl (ia_cons (ie_var (pv 1)) ia_nil))) (by decide))) ia_nil))))
theorem sc_most_hanging : FnScope ["tree"] ["tree"] (defScope (top 27)) := ⟨rfl, rfl, rfl, by decide +kernel, rfl, by decide +kernel, by decide +kernel⟩
def m_most_hanging : FA := flatF ( mDef 0
    (mRet (mCallF 1 (m_most_in 12) (mCons (mCallF 1 m_sure_tree (mCons (mVar 0) mNil)) mNil))))
theorem c_most_hanging {P : Program} {w : World} {K : PySem.W.Frag} {mg : Str → Option Value} {base : Heap} (T : Top K mg) : CallM P w K mg base 16 1 "most_hanging" m_most_hanging := by
  obtain ⟨fd, F, hm⟩ := T.def_ 21 (d := dd "most_hanging" 27) rfl rfl
  refine CallM.flat (call_def (st := top 27) F sc_most_hanging hm rfl rfl (fun _ _ _ _ _ _ us hl => match us, hl with | [_], _ => rfl) (fun cdv A outer s H E hr => ?_))
  have S := sc_most_hanging
  exact (iss_one (is_ret (ie_call (c_most_in T 12) (hr.mono (by omega)) rfl (ia_cons (ie_call (c_sure_tree T) (hr.mono (by omega)) rfl (ia_cons (ie_var (pv 0)) ia_nil)) ia_nil))))
theorem sc_under : FnScope ["one", "other"] ["one", "other"] (defScope (top 28)) := ⟨rfl, rfl, rfl, by decide +kernel, rfl, by decide +kernel, by decide +kernel⟩
def m_under : FA := flatF ( mDef 0
    (mRet (mCall (fa1 tupF) (mCons (mCall (fa1 srtF) (mCons (mTup (mStar (mVar 0) (mCons (mVar 1) mNil))) mNil)) mNil))))
theorem c_under {P : Program} {w : World} {K : PySem.W.Frag} {mg : Str → Option Value} {base : Heap} (T : Top K mg) : CallM P w K mg base 1 2 "under" m_under := by
  obtain ⟨fd, F, hm⟩ := T.def_ 22 (d := dd "under" 28) rfl rfl
  refine CallM.flat (call_def (st := top 28) F sc_under hm rfl rfl (fun _ _ _ _ _ _ us hl => match us, hl with | [_, _], _ => rfl) (fun cdv A outer s H E hr => ?_))
  have S := sc_under
  exact (iss_one (is_ret (ie_callTy call_tupD rfl (T.free 129 rfl) (by decide +kernel) (ia_cons (ie_callB (call_srtD hr.u64) rfl (T.free 126 rfl) (by decide +kernel) (ia_cons (ie_tup (ia_star (ie_var (pv 0)) (ia_cons (ie_var (pv 1)) ia_nil))) ia_nil)) ia_nil))))
theorem sc_hung : FnScope ["one", "other", "near", "far"] ["one", "other"] (defScope (top 29)) := ⟨rfl, rfl, rfl, by decide +kernel, rfl, by decide +kernel, by decide +kernel⟩
def m_hung : FA := flatF ( mDef 2
    (mSeq (mPar 2 3 (mCons (mCallF 1 m_sure_tree (mCons (mVar 0) mNil)) (mCons (mCallF 1 m_sure_tree (mCons (mVar 1) mNil)) mNil)))
    (mRet (mCallF 2 m_under (mCons (mVar 2) (mCons (mVar 3) mNil))))))
theorem c_hung {P : Program} {w : World} {K : PySem.W.Frag} {mg : Str → Option Value} {base : Heap} (T : Top K mg) : CallM P w K mg base 16 2 "hung" m_hung := by
  obtain ⟨fd, F, hm⟩ := T.def_ 23 (d := dd "hung" 29) rfl rfl
  refine CallM.flat (call_def (st := top 29) F sc_hung hm rfl rfl (fun _ _ _ _ _ _ us hl => match us, hl with | [_, _], _ => rfl) (fun cdv A outer s H E hr => ?_))
  have S := sc_hung
  exact (iss_cons (is_par (i := 2) (j := 3) rfl S.nd rfl rfl (by decide) rfl rfl (ia_cons (ie_call (c_sure_tree T) (hr.mono (by omega)) rfl (ia_cons (ie_var (pv 0)) ia_nil)) (ia_cons (ie_call (c_sure_tree T) (hr.mono (by omega)) rfl (ia_cons (ie_var (pv 1)) ia_nil)) ia_nil)))
    (iss_one (is_ret (ie_call (c_under T) (hr.mono (by omega)) rfl (ia_cons (ie_var (pv 2)) (ia_cons (ie_var (pv 3)) ia_nil))))))
theorem sc_grown_in : FnScope ["tree", "found", "k", "part", "more"] ["tree"] (defScope (top 30)) := ⟨rfl, rfl, rfl, by decide +kernel, rfl, by decide +kernel, by decide +kernel⟩
def b_grown_in (self : FA) : MS :=
    (mSeq (mSet 1 (mLst (mCons (mCallF 2 m_under (mCons (mVar 0) (mCons (mTup mNil) mNil))) mNil)))
    (mSeq (mFor (mEnumI (mVar 0)) (gTupM 2 (gsCons (gN 2) (gsCons (gN 3) gsNil))) (mExpr (mMeth okL extF (mVar 1) (mCons (mLc (mSeqI (mCallF 1 self (mCons (mVar 3) mNil))) (gN 4) mYes (mCall (fa1 tupF) (mCons (mCall (fa1 srtF) (mCons (mTup (mStar (mSlice (mVar 0) mNoPart (mPart (mVar 2))) (mCons (mVar 4) (mStar (mSlice (mVar 0) (mPart (mBin addD (mVar 2) (mC (.int 1)))) mNoPart) mNil)))) mNil)) mNil)) [4]) mNil))))
    (mRet (mUn ssetF (mVar 1)))))
def m_grown_in : Nat → FA := mRecF 4 b_grown_in
theorem c_grown_in {P : Program} {w : World} {K : PySem.W.Frag} {mg : Str → Option Value} {base : Heap} (T : Top K mg) (k : Nat) : CallM P w K mg base (1 + k + 1) 1 "grown_in" (m_grown_in k) := by
  obtain ⟨fd, F, hm⟩ := T.def_ 24 (d := dd "grown_in" 30) rfl rfl
  refine call_recF (st := top 30) F sc_grown_in hm rfl rfl (fun _ _ _ _ _ _ us hl => match us, hl with | [_], _ => rfl) (fun self k cself cdv A outer s H E hr => ?_) k
  have S := sc_grown_in
  exact (iss_cons (is_set (i := 1) S.nd rfl (.inl rfl) (ie_lst (ia_cons (ie_call (c_under T) (hr.mono (by omega)) rfl (ia_cons (ie_var (pv 0)) (ia_cons (ie_tup ia_nil) ia_nil))) ia_nil)))
    (iss_cons (is_for rfl PassesOwn.never (ii_enum rfl (T.free 117 rfl) (ie_var (pv 0))) (ij_tup rfl (ijs_cons (ij_name (i := 2) S.nd rfl (.inr rfl)) (ijs_cons (ij_name (i := 3) S.nd rfl (.inl rfl)) ijs_nil))) (iss_one (is_expr (ie_meth mt_extD (ie_var (pv 1)) (ia_cons (ie_lc (own := [("more", 4)]) rfl S.nd (ii_seq (ie_call cself (hr.mono (by omega)) rfl (ia_cons (ie_var (pv 3)) ia_nil))) (blkOk_by (by kernel_rfl)) (fun _ _ _ _ _ => (ij_name (i := 4) S.nd rfl (.inl rfl))) (fun _ _ _ _ _ => its_nil) (fun _ _ _ _ _ => (ie_callTy call_tupD rfl (T.free 129 rfl) (by decide +kernel) (ia_cons (ie_callB (call_srtD hr.u64) rfl (T.free 126 rfl) (by decide +kernel) (ia_cons (ie_tup (ia_star (ie_slice (ie_var (pv 0)) io_none (io_some (ie_var (pv 2)))) (ia_cons (ie_var (pv 4)) (ia_star (ie_slice (ie_var (pv 0)) (io_some (ie_bin op_addD (ie_var (pv 2)) ie_int)) io_none) ia_nil)))) ia_nil)) ia_nil))) (by decide)) ia_nil)))))
    (iss_one (is_ret (ie_sset rfl hr.u64 (ie_var (pv 1)) rfl (T.free 126 rfl) rfl (T.free 125 rfl))))))
theorem sc_grown_trees : FnScope ["tree"] ["tree"] (defScope (top 31)) := ⟨rfl, rfl, rfl, by decide +kernel, rfl, by decide +kernel, by decide +kernel⟩
def m_grown_trees : FA := flatF ( mDef 0
    (mRet (mCallF 1 (m_grown_in 12) (mCons (mCallF 1 m_sure_tree (mCons (mVar 0) mNil)) mNil))))
theorem c_grown_trees {P : Program} {w : World} {K : PySem.W.Frag} {mg : Str → Option Value} {base : Heap} (T : Top K mg) : CallM P w K mg base 16 1 "grown_trees" m_grown_trees := by
  obtain ⟨fd, F, hm⟩ := T.def_ 25 (d := dd "grown_trees" 31) rfl rfl
  refine CallM.flat (call_def (st := top 31) F sc_grown_trees hm rfl rfl (fun _ _ _ _ _ _ us hl => match us, hl with | [_], _ => rfl) (fun cdv A outer s H E hr => ?_))
  have S := sc_grown_trees
  exact (iss_one (is_ret (ie_call (c_grown_in T 12) (hr.mono (by omega)) rfl (ia_cons (ie_call (c_sure_tree T) (hr.mono (by omega)) rfl (ia_cons (ie_var (pv 0)) ia_nil)) ia_nil))))
theorem sc_listed : FnScope ["many", "rows", "_", "later", "tree"] ["many"] (defScope (top 32)) := ⟨rfl, rfl, rfl, by decide +kernel, rfl, by decide +kernel, by decide +kernel⟩
def m_listed : FA := flatF ( mDef 4
    (mSeq (mSet 1 (mLst (mCons (mTup mNil) mNil)))
    (mSeq (mFor (mRg1I (mCons (mBin subD (mVar 0) (mC (.int 1))) mNil)) (gN 2) (mSeq (mSet 3 (mLst mNil))
    (mSeq (mFor (mSeqI (mVar 1)) (gN 4) (mExpr (mMeth okL extF (mVar 3) (mCons (mCallF 1 (m_grown_in 12) (mCons (mVar 4) mNil)) mNil))))
    (mSet 1 (mUn ssetF (mVar 3))))))
    (mRet (mCall (fa1 lstF) (mCons (mVar 1) mNil))))))
theorem c_listed {P : Program} {w : World} {K : PySem.W.Frag} {mg : Str → Option Value} {base : Heap} (T : Top K mg) : CallM P w K mg base 15 1 "listed" m_listed := by
  obtain ⟨fd, F, hm⟩ := T.def_ 26 (d := dd "listed" 32) rfl rfl
  refine CallM.flat (call_def (st := top 32) F sc_listed hm rfl rfl (fun _ _ _ _ _ _ us hl => match us, hl with | [_], _ => rfl) (fun cdv A outer s H E hr => ?_))
  have S := sc_listed
  exact (iss_cons (is_set (i := 1) S.nd rfl (.inl rfl) (ie_lst (ia_cons (ie_tup ia_nil) ia_nil)))
    (iss_cons (is_for rfl PassesOwn.never (ii_rg1 rfl (T.free 124 rfl) (ia_cons (ie_bin op_subD (ie_var (pv 0)) ie_int) ia_nil)) (ij_name (i := 2) S.nd rfl (.inl rfl)) (iss_cons (is_set (i := 3) S.nd rfl (.inl rfl) (ie_lst ia_nil))
    (iss_cons (is_for rfl PassesOwn.never (ii_seq (ie_var (pv 1))) (ij_name (i := 4) S.nd rfl (.inl rfl)) (iss_one (is_expr (ie_meth mt_extD (ie_var (pv 3)) (ia_cons (ie_call (c_grown_in T 12) (hr.mono (by omega)) rfl (ia_cons (ie_var (pv 4)) ia_nil)) ia_nil)))))
    (iss_one (is_set (i := 1) S.nd rfl (.inl rfl) (ie_sset rfl hr.u64 (ie_var (pv 3)) rfl (T.free 126 rfl) rfl (T.free 125 rfl)))))))
    (iss_one (is_ret (ie_callTy call_lstD rfl (T.free 121 rfl) (by decide +kernel) (ia_cons (ie_var (pv 1)) ia_nil))))))
def g_listed : FA := tabF 7 sz
theorem o_listed {P : Program} {w : World} {K : PySem.W.Frag} {mg : Str → Option Value} {base : Heap} (T : Top K mg) : CallM P w K mg base 15 1 "listed" g_listed := (c_listed T).tab (by decide +kernel)
theorem sc_listed_to : FnScope ["many", "found", "size"] ["many"] (defScope (top 33)) := ⟨rfl, rfl, rfl, by decide +kernel, rfl, by decide +kernel, by decide +kernel⟩
def m_listed_to : FA := flatF ( mDef 2
    (mSeq (mSet 1 (mLst mNil))
    (mSeq (mFor (mRg2I (mCons (mC (.int 1)) (mCons (mBin addD (mVar 0) (mC (.int 1))) mNil))) (gN 2) (mExpr (mMeth okL extF (mVar 1) (mCons (mCallF 1 g_listed (mCons (mVar 2) mNil)) mNil))))
    (mRet (mVar 1)))))
theorem c_listed_to {P : Program} {w : World} {K : PySem.W.Frag} {mg : Str → Option Value} {base : Heap} (T : Top K mg) : CallM P w K mg base 16 1 "listed_to" m_listed_to := by
  obtain ⟨fd, F, hm⟩ := T.def_ 27 (d := dd "listed_to" 33) rfl rfl
  refine CallM.flat (call_def (st := top 33) F sc_listed_to hm rfl rfl (fun _ _ _ _ _ _ us hl => match us, hl with | [_], _ => rfl) (fun cdv A outer s H E hr => ?_))
  have S := sc_listed_to
  exact (iss_cons (is_set (i := 1) S.nd rfl (.inl rfl) (ie_lst ia_nil))
    (iss_cons (is_for rfl PassesOwn.never (ii_rg2 rfl (T.free 124 rfl) (ia_cons ie_int (ia_cons (ie_bin op_addD (ie_var (pv 0)) ie_int) ia_nil))) (ij_name (i := 2) S.nd rfl (.inl rfl)) (iss_one (is_expr (ie_meth mt_extD (ie_var (pv 1)) (ia_cons (ie_call (o_listed T) (hr.mono (by omega)) rfl (ia_cons (ie_var (pv 2)) ia_nil)) ia_nil)))))
    (iss_one (is_ret (ie_var (pv 1))))))
def g_listed_to : FA := tabF 7 szTo
theorem o_listed_to {P : Program} {w : World} {K : PySem.W.Frag} {mg : Str → Option Value} {base : Heap} (T : Top K mg) : CallM P w K mg base 16 1 "listed_to" g_listed_to := (c_listed_to T).tab (by decide +kernel)
theorem sc_all_trees : FnScope ["many"] ["many"] (defScope (top 34)) := ⟨rfl, rfl, rfl, by decide +kernel, rfl, by decide +kernel, by decide +kernel⟩
def m_all_trees : FA := flatF ( mDef 0
    (mRet (mCallF 1 g_listed (mCons (mCallF 3 m_sure_within (mCons (mVar 0) (mCons (mC (.int 1)) (mCons (mC (.int 8)) mNil)))) mNil))))
theorem c_all_trees {P : Program} {w : World} {K : PySem.W.Frag} {mg : Str → Option Value} {base : Heap} (T : Top K mg) : CallM P w K mg base 16 1 "all_trees" m_all_trees := by
  obtain ⟨fd, F, hm⟩ := T.def_ 28 (d := dd "all_trees" 34) rfl rfl
  refine CallM.flat (call_def (st := top 34) F sc_all_trees hm rfl rfl (fun _ _ _ _ _ _ us hl => match us, hl with | [_], _ => rfl) (fun cdv A outer s H E hr => ?_))
  have S := sc_all_trees
  exact (iss_one (is_ret (ie_call (o_listed T) (hr.mono (by omega)) rfl (ia_cons (ie_call (c_sure_within T) (hr.mono (by omega)) rfl (ia_cons (ie_var (pv 0)) (ia_cons ie_int (ia_cons (ie_cst (T.cst 131 rfl) rfl) ia_nil)))) ia_nil))))
theorem sc_trees_to : FnScope ["many"] ["many"] (defScope (top 35)) := ⟨rfl, rfl, rfl, by decide +kernel, rfl, by decide +kernel, by decide +kernel⟩
def m_trees_to : FA := flatF ( mDef 0
    (mRet (mCallF 1 g_listed_to (mCons (mCallF 3 m_sure_within (mCons (mVar 0) (mCons (mC (.int 1)) (mCons (mC (.int 8)) mNil)))) mNil))))
theorem c_trees_to {P : Program} {w : World} {K : PySem.W.Frag} {mg : Str → Option Value} {base : Heap} (T : Top K mg) : CallM P w K mg base 17 1 "trees_to" m_trees_to := by
  obtain ⟨fd, F, hm⟩ := T.def_ 29 (d := dd "trees_to" 35) rfl rfl
  refine CallM.flat (call_def (st := top 35) F sc_trees_to hm rfl rfl (fun _ _ _ _ _ _ us hl => match us, hl with | [_], _ => rfl) (fun cdv A outer s H E hr => ?_))
  have S := sc_trees_to
  exact (iss_one (is_ret (ie_call (o_listed_to T) (hr.mono (by omega)) rfl (ia_cons (ie_call (c_sure_within T) (hr.mono (by omega)) rfl (ia_cons (ie_var (pv 0)) (ia_cons ie_int (ia_cons (ie_cst (T.cst 131 rfl) rfl) ia_nil)))) ia_nil))))
theorem sc_how_many_trees : FnScope ["many"] ["many"] (defScope (top 36)) := ⟨rfl, rfl, rfl, by decide +kernel, rfl, by decide +kernel, by decide +kernel⟩
def m_how_many_trees : FA := flatF ( mDef 0
    (mRet (mCall (fa1 lenF) (mCons (mCallF 1 m_all_trees (mCons (mVar 0) mNil)) mNil))))
theorem c_how_many_trees {P : Program} {w : World} {K : PySem.W.Frag} {mg : Str → Option Value} {base : Heap} (T : Top K mg) : CallM P w K mg base 17 1 "how_many_trees" m_how_many_trees := by
  obtain ⟨fd, F, hm⟩ := T.def_ 30 (d := dd "how_many_trees" 36) rfl rfl
  refine CallM.flat (call_def (st := top 36) F sc_how_many_trees hm rfl rfl (fun _ _ _ _ _ _ us hl => match us, hl with | [_], _ => rfl) (fun cdv A outer s H E hr => ?_))
  have S := sc_how_many_trees
  exact (iss_one (is_ret (ie_callB call_lenD rfl (T.free 120 rfl) PySem.boot_len (ia_cons (ie_call (c_all_trees T) (hr.mono (by omega)) rfl (ia_cons (ie_var (pv 0)) ia_nil)) ia_nil))))
theorem sc_tree_number : FnScope ["tree", "own"] ["tree"] (defScope (top 37)) := ⟨rfl, rfl, rfl, by decide +kernel, rfl, by decide +kernel, by decide +kernel⟩
def m_tree_number : FA := flatF ( mDef 1
    (mSeq (mSet 1 (mCallF 1 m_sure_tree (mCons (mVar 0) mNil)))
    (mSeq (mIfS (mTB (mBin (cmpD oGt) (mCallF 1 (m_size_in 12) (mCons (mVar 1) mNil)) (mC (.int 8)))) mErr mNext)
    (mRet (mMeth okL idxF (mCallF 1 g_listed_to (mCons (mCallF 1 (m_size_in 12) (mCons (mVar 1) mNil)) mNil)) (mCons (mVar 1) mNil))))))
theorem c_tree_number {P : Program} {w : World} {K : PySem.W.Frag} {mg : Str → Option Value} {base : Heap} (T : Top K mg) : CallM P w K mg base 17 1 "tree_number" m_tree_number := by
  obtain ⟨fd, F, hm⟩ := T.def_ 31 (d := dd "tree_number" 37) rfl rfl
  refine CallM.flat (call_def (st := top 37) F sc_tree_number hm rfl rfl (fun _ _ _ _ _ _ us hl => match us, hl with | [_], _ => rfl) (fun cdv A outer s H E hr => ?_))
  have S := sc_tree_number
  exact (iss_cons (is_set (i := 1) S.nd rfl (.inl rfl) (ie_call (c_sure_tree T) (hr.mono (by omega)) rfl (ia_cons (ie_var (pv 0)) ia_nil)))
    (iss_cons (is_if (it_cmp (op_gtD hr.u64) (ie_call (c_size_in T 12) (hr.mono (by omega)) rfl (ia_cons (ie_var (pv 1)) ia_nil)) (ie_cst (T.cst 131 rfl) rfl)) (iss_one is_never) iss_nil)
    (iss_one (is_ret (ie_meth (mt_idxD hr.u65) (ie_call (o_listed_to T) (hr.mono (by omega)) rfl (ia_cons (ie_call (c_size_in T 12) (hr.mono (by omega)) rfl (ia_cons (ie_var (pv 1)) ia_nil)) ia_nil)) (ia_cons (ie_var (pv 1)) ia_nil))))))
theorem sc_density_in : FnScope ["tree", "found", "part"] ["tree"] (defScope (top 39)) := ⟨rfl, rfl, rfl, by decide +kernel, rfl, by decide +kernel, by decide +kernel⟩
def b_density_in (self : FA) : MS :=
    (mSeq (mSet 1 (mCallF 1 (m_size_in 12) (mCons (mVar 0) mNil)))
    (mSeq (mFor (mSeqI (mVar 0)) (gN 2) (mSet 1 (mBin mulD (mVar 1) (mCallF 1 self (mCons (mVar 2) mNil)))))
    (mRet (mVar 1))))
def m_density_in : Nat → FA := mRecF 2 b_density_in
theorem c_density_in {P : Program} {w : World} {K : PySem.W.Frag} {mg : Str → Option Value} {base : Heap} (T : Top K mg) (k : Nat) : CallM P w K mg base (13 + k + 1) 1 "density_in" (m_density_in k) := by
  obtain ⟨fd, F, hm⟩ := T.def_ 32 (d := dd "density_in" 39) rfl rfl
  refine call_recF (st := top 39) F sc_density_in hm rfl rfl (fun _ _ _ _ _ _ us hl => match us, hl with | [_], _ => rfl) (fun self k cself cdv A outer s H E hr => ?_) k
  have S := sc_density_in
  exact (iss_cons (is_set (i := 1) S.nd rfl (.inl rfl) (ie_call (c_size_in T 12) (hr.mono (by omega)) rfl (ia_cons (ie_var (pv 0)) ia_nil)))
    (iss_cons (is_for rfl PassesOwn.never (ii_seq (ie_var (pv 0))) (ij_name (i := 2) S.nd rfl (.inl rfl)) (iss_one (is_set (i := 1) S.nd rfl (.inl rfl) (ie_bin op_mulD (ie_var (pv 1)) (ie_call cself (hr.mono (by omega)) rfl (ia_cons (ie_var (pv 2)) ia_nil))))))
    (iss_one (is_ret (ie_var (pv 1))))))
theorem sc_product_to : FnScope ["many", "found", "number"] ["many"] (defScope (top 43)) := ⟨rfl, rfl, rfl, by decide +kernel, rfl, by decide +kernel, by decide +kernel⟩
def m_product_to : FA := flatF ( mDef 2
    (mSeq (mSet 1 (mC (.int 1)))
    (mSeq (mFor (mRg2I (mCons (mC (.int 2)) (mCons (mBin addD (mVar 0) (mC (.int 1))) mNil))) (gN 2) (mSet 1 (mBin mulD (mVar 1) (mVar 2))))
    (mRet (mVar 1)))))
theorem c_product_to {P : Program} {w : World} {K : PySem.W.Frag} {mg : Str → Option Value} {base : Heap} (T : Top K mg) : CallM P w K mg base 1 1 "product_to" m_product_to := by
  obtain ⟨fd, F, hm⟩ := T.def_ 33 (d := dd "product_to" 43) rfl rfl
  refine CallM.flat (call_def (st := top 43) F sc_product_to hm rfl rfl (fun _ _ _ _ _ _ us hl => match us, hl with | [_], _ => rfl) (fun cdv A outer s H E hr => ?_))
  have S := sc_product_to
  exact (iss_cons (is_set (i := 1) S.nd rfl (.inl rfl) ie_int)
    (iss_cons (is_for rfl PassesOwn.never (ii_rg2 rfl (T.free 124 rfl) (ia_cons ie_int (ia_cons (ie_bin op_addD (ie_var (pv 0)) ie_int) ia_nil))) (ij_name (i := 2) S.nd rfl (.inl rfl)) (iss_one (is_set (i := 1) S.nd rfl (.inl rfl) (ie_bin op_mulD (ie_var (pv 1)) (ie_var (pv 2))))))
    (iss_one (is_ret (ie_var (pv 1))))))
theorem sc_likeness_in : FnScope ["tree", "found", "place", "part"] ["tree"] (defScope (top 44)) := ⟨rfl, rfl, rfl, by decide +kernel, rfl, by decide +kernel, by decide +kernel⟩
def b_likeness_in (self : FA) : MS :=
    (mSeq (mSet 1 (mC (.int 1)))
    (mSeq (mFor (mEnumI (mVar 0)) (gTupM 2 (gsCons (gN 2) (gsCons (gN 3) gsNil))) (mSet 1 (mBin mulD (mBin mulD (mVar 1) (mCallF 1 self (mCons (mVar 3) mNil))) (mMeth okS2 cntF (mSlice (mVar 0) mNoPart (mPart (mBin addD (mVar 2) (mC (.int 1))))) (mCons (mVar 3) mNil)))))
    (mRet (mVar 1))))
def m_likeness_in : Nat → FA := mRecF 3 b_likeness_in
theorem c_likeness_in {P : Program} {w : World} {K : PySem.W.Frag} {mg : Str → Option Value} {base : Heap} (T : Top K mg) (k : Nat) : CallM P w K mg base (0 + k + 1) 1 "likeness_in" (m_likeness_in k) := by
  obtain ⟨fd, F, hm⟩ := T.def_ 34 (d := dd "likeness_in" 44) rfl rfl
  refine call_recF (st := top 44) F sc_likeness_in hm rfl rfl (fun _ _ _ _ _ _ us hl => match us, hl with | [_], _ => rfl) (fun self k cself cdv A outer s H E hr => ?_) k
  have S := sc_likeness_in
  exact (iss_cons (is_set (i := 1) S.nd rfl (.inl rfl) ie_int)
    (iss_cons (is_for rfl PassesOwn.never (ii_enum rfl (T.free 117 rfl) (ie_var (pv 0))) (ij_tup rfl (ijs_cons (ij_name (i := 2) S.nd rfl (.inl rfl)) (ijs_cons (ij_name (i := 3) S.nd rfl (.inl rfl)) ijs_nil))) (iss_one (is_set (i := 1) S.nd rfl (.inl rfl) (ie_bin op_mulD (ie_bin op_mulD (ie_var (pv 1)) (ie_call cself (hr.mono (by omega)) rfl (ia_cons (ie_var (pv 3)) ia_nil))) (ie_meth (mt_cntD hr.u70) (ie_slice (ie_var (pv 0)) io_none (io_some (ie_bin op_addD (ie_var (pv 2)) ie_int))) (ia_cons (ie_var (pv 3)) ia_nil))))))
    (iss_one (is_ret (ie_var (pv 1))))))
theorem sc_likeness : FnScope ["tree"] ["tree"] (defScope (top 45)) := ⟨rfl, rfl, rfl, by decide +kernel, rfl, by decide +kernel, by decide +kernel⟩
def m_likeness : FA := flatF ( mDef 0
    (mRet (mCallF 1 (m_likeness_in 12) (mCons (mCallF 1 m_sure_tree (mCons (mVar 0) mNil)) mNil))))
theorem c_likeness {P : Program} {w : World} {K : PySem.W.Frag} {mg : Str → Option Value} {base : Heap} (T : Top K mg) : CallM P w K mg base 16 1 "likeness" m_likeness := by
  obtain ⟨fd, F, hm⟩ := T.def_ 35 (d := dd "likeness" 45) rfl rfl
  refine CallM.flat (call_def (st := top 45) F sc_likeness hm rfl rfl (fun _ _ _ _ _ _ us hl => match us, hl with | [_], _ => rfl) (fun cdv A outer s H E hr => ?_))
  have S := sc_likeness
  exact (iss_one (is_ret (ie_call (c_likeness_in T 12) (hr.mono (by omega)) rfl (ia_cons (ie_call (c_sure_tree T) (hr.mono (by omega)) rfl (ia_cons (ie_var (pv 0)) ia_nil)) ia_nil))))
theorem sc_sizes_in : FnScope ["tree", "found", "part"] ["tree"] (defScope (top 46)) := ⟨rfl, rfl, rfl, by decide +kernel, rfl, by decide +kernel, by decide +kernel⟩
def b_sizes_in (self : FA) : MS :=
    (mSeq (mSet 1 (mLst (mCons (mCallF 1 (m_size_in 12) (mCons (mVar 0) mNil)) mNil)))
    (mSeq (mFor (mSeqI (mVar 0)) (gN 2) (mExpr (mMeth okL extF (mVar 1) (mCons (mCallF 1 self (mCons (mVar 2) mNil)) mNil))))
    (mRet (mCall (fa1 tupF) (mCons (mVar 1) mNil)))))
def m_sizes_in : Nat → FA := mRecF 2 b_sizes_in
theorem c_sizes_in {P : Program} {w : World} {K : PySem.W.Frag} {mg : Str → Option Value} {base : Heap} (T : Top K mg) (k : Nat) : CallM P w K mg base (13 + k + 1) 1 "sizes_in" (m_sizes_in k) := by
  obtain ⟨fd, F, hm⟩ := T.def_ 36 (d := dd "sizes_in" 46) rfl rfl
  refine call_recF (st := top 46) F sc_sizes_in hm rfl rfl (fun _ _ _ _ _ _ us hl => match us, hl with | [_], _ => rfl) (fun self k cself cdv A outer s H E hr => ?_) k
  have S := sc_sizes_in
  exact (iss_cons (is_set (i := 1) S.nd rfl (.inl rfl) (ie_lst (ia_cons (ie_call (c_size_in T 12) (hr.mono (by omega)) rfl (ia_cons (ie_var (pv 0)) ia_nil)) ia_nil)))
    (iss_cons (is_for rfl PassesOwn.never (ii_seq (ie_var (pv 0))) (ij_name (i := 2) S.nd rfl (.inl rfl)) (iss_one (is_expr (ie_meth mt_extD (ie_var (pv 1)) (ia_cons (ie_call cself (hr.mono (by omega)) rfl (ia_cons (ie_var (pv 2)) ia_nil)) ia_nil)))))
    (iss_one (is_ret (ie_callTy call_tupD rfl (T.free 129 rfl) (by decide +kernel) (ia_cons (ie_var (pv 1)) ia_nil))))))
theorem sc_node_sizes : FnScope ["tree"] ["tree"] (defScope (top 47)) := ⟨rfl, rfl, rfl, by decide +kernel, rfl, by decide +kernel, by decide +kernel⟩
def m_node_sizes : FA := flatF ( mDef 0
    (mRet (mCallF 1 (m_sizes_in 12) (mCons (mCallF 1 m_sure_tree (mCons (mVar 0) mNil)) mNil))))
theorem c_node_sizes {P : Program} {w : World} {K : PySem.W.Frag} {mg : Str → Option Value} {base : Heap} (T : Top K mg) : CallM P w K mg base 27 1 "node_sizes" m_node_sizes := by
  obtain ⟨fd, F, hm⟩ := T.def_ 37 (d := dd "node_sizes" 47) rfl rfl
  refine CallM.flat (call_def (st := top 47) F sc_node_sizes hm rfl rfl (fun _ _ _ _ _ _ us hl => match us, hl with | [_], _ => rfl) (fun cdv A outer s H E hr => ?_))
  have S := sc_node_sizes
  exact (iss_one (is_ret (ie_call (c_sizes_in T 12) (hr.mono (by omega)) rfl (ia_cons (ie_call (c_sure_tree T) (hr.mono (by omega)) rfl (ia_cons (ie_var (pv 0)) ia_nil)) ia_nil))))
theorem sc_hangings_in : FnScope ["tree", "found", "part"] ["tree"] (defScope (top 48)) := ⟨rfl, rfl, rfl, by decide +kernel, rfl, by decide +kernel, by decide +kernel⟩
def b_hangings_in (self : FA) : MS :=
    (mSeq (mSet 1 (mLst (mCons (mCall (fa1 lenF) (mCons (mVar 0) mNil)) mNil)))
    (mSeq (mFor (mSeqI (mVar 0)) (gN 2) (mExpr (mMeth okL extF (mVar 1) (mCons (mCallF 1 self (mCons (mVar 2) mNil)) mNil))))
    (mRet (mCall (fa1 tupF) (mCons (mVar 1) mNil)))))
def m_hangings_in : Nat → FA := mRecF 2 b_hangings_in
theorem c_hangings_in {P : Program} {w : World} {K : PySem.W.Frag} {mg : Str → Option Value} {base : Heap} (T : Top K mg) (k : Nat) : CallM P w K mg base (0 + k + 1) 1 "hangings_in" (m_hangings_in k) := by
  obtain ⟨fd, F, hm⟩ := T.def_ 38 (d := dd "hangings_in" 48) rfl rfl
  refine call_recF (st := top 48) F sc_hangings_in hm rfl rfl (fun _ _ _ _ _ _ us hl => match us, hl with | [_], _ => rfl) (fun self k cself cdv A outer s H E hr => ?_) k
  have S := sc_hangings_in
  exact (iss_cons (is_set (i := 1) S.nd rfl (.inl rfl) (ie_lst (ia_cons (ie_callB call_lenD rfl (T.free 120 rfl) PySem.boot_len (ia_cons (ie_var (pv 0)) ia_nil)) ia_nil)))
    (iss_cons (is_for rfl PassesOwn.never (ii_seq (ie_var (pv 0))) (ij_name (i := 2) S.nd rfl (.inl rfl)) (iss_one (is_expr (ie_meth mt_extD (ie_var (pv 1)) (ia_cons (ie_call cself (hr.mono (by omega)) rfl (ia_cons (ie_var (pv 2)) ia_nil)) ia_nil)))))
    (iss_one (is_ret (ie_callTy call_tupD rfl (T.free 129 rfl) (by decide +kernel) (ia_cons (ie_var (pv 1)) ia_nil))))))
theorem sc_how_many_orders : FnScope ["tree", "own"] ["tree"] (defScope (top 49)) := ⟨rfl, rfl, rfl, by decide +kernel, rfl, by decide +kernel, by decide +kernel⟩
def m_how_many_orders : FA := flatF ( mDef 1
    (mSeq (mSet 1 (mCallF 1 m_sure_tree (mCons (mVar 0) mNil)))
    (mRet (mBin divD (mCallF 1 m_product_to (mCons (mCallF 1 (m_size_in 12) (mCons (mVar 1) mNil)) mNil)) (mCallF 1 (m_density_in 12) (mCons (mVar 1) mNil))))))
theorem c_how_many_orders {P : Program} {w : World} {K : PySem.W.Frag} {mg : Str → Option Value} {base : Heap} (T : Top K mg) : CallM P w K mg base 27 1 "how_many_orders" m_how_many_orders := by
  obtain ⟨fd, F, hm⟩ := T.def_ 39 (d := dd "how_many_orders" 49) rfl rfl
  refine CallM.flat (call_def (st := top 49) F sc_how_many_orders hm rfl rfl (fun _ _ _ _ _ _ us hl => match us, hl with | [_], _ => rfl) (fun cdv A outer s H E hr => ?_))
  have S := sc_how_many_orders
  exact (iss_cons (is_set (i := 1) S.nd rfl (.inl rfl) (ie_call (c_sure_tree T) (hr.mono (by omega)) rfl (ia_cons (ie_var (pv 0)) ia_nil)))
    (iss_one (is_ret (ie_bin op_divD (ie_call (c_product_to T) (hr.mono (by omega)) rfl (ia_cons (ie_call (c_size_in T 12) (hr.mono (by omega)) rfl (ia_cons (ie_var (pv 1)) ia_nil)) ia_nil)) (ie_call (c_density_in T 12) (hr.mono (by omega)) rfl (ia_cons (ie_var (pv 1)) ia_nil))))))
theorem sc_how_many_free : FnScope ["tree", "own"] ["tree"] (defScope (top 50)) := ⟨rfl, rfl, rfl, by decide +kernel, rfl, by decide +kernel, by decide +kernel⟩
def m_how_many_free : FA := flatF ( mDef 1
    (mSeq (mSet 1 (mCallF 1 m_sure_tree (mCons (mVar 0) mNil)))
    (mRet (mBin divD (mCallF 1 m_product_to (mCons (mCallF 1 (m_size_in 12) (mCons (mVar 1) mNil)) mNil)) (mCallF 1 (m_likeness_in 12) (mCons (mVar 1) mNil))))))
theorem c_how_many_free {P : Program} {w : World} {K : PySem.W.Frag} {mg : Str → Option Value} {base : Heap} (T : Top K mg) : CallM P w K mg base 16 1 "how_many_free" m_how_many_free := by
  obtain ⟨fd, F, hm⟩ := T.def_ 40 (d := dd "how_many_free" 50) rfl rfl
  refine CallM.flat (call_def (st := top 50) F sc_how_many_free hm rfl rfl (fun _ _ _ _ _ _ us hl => match us, hl with | [_], _ => rfl) (fun cdv A outer s H E hr => ?_))
  have S := sc_how_many_free
  exact (iss_cons (is_set (i := 1) S.nd rfl (.inl rfl) (ie_call (c_sure_tree T) (hr.mono (by omega)) rfl (ia_cons (ie_var (pv 0)) ia_nil)))
    (iss_one (is_ret (ie_bin op_divD (ie_call (c_product_to T) (hr.mono (by omega)) rfl (ia_cons (ie_call (c_size_in T 12) (hr.mono (by omega)) rfl (ia_cons (ie_var (pv 1)) ia_nil)) ia_nil)) (ie_call (c_likeness_in T 12) (hr.mono (by omega)) rfl (ia_cons (ie_var (pv 1)) ia_nil))))))
theorem sc_tree_counts : FnScope ["many", "most", "found", "sums", "size", "part"] ["many"] (defScope (top 51)) := ⟨rfl, rfl, rfl, by decide +kernel, rfl, by decide +kernel, by decide +kernel⟩
def m_tree_counts : FA := flatF ( mDef 5
    (mSeq (mSet 1 (mCallF 3 m_sure_within (mCons (mVar 0) (mCons (mC (.int 1)) (mCons (mC (.int 60)) mNil)))))
    (mSeq (mAsg (mTup (mCons (mLst (mCons (mC (.int 1)) mNil)) (mCons (mLst (mCons (mC (.int 0)) mNil)) mNil))) (gTupM 2 (gsCons (gN 2) (gsCons (gN 3) gsNil))))
    (mSeq (mFor (mRg2I (mCons (mC (.int 1)) (mCons (mVar 1) mNil))) (gN 4) (mSeq (mExpr (mMeth okL appF (mVar 3) (mCons (mCall (fa1 sumF2) (mCons (mLc (mRg2I (mCons (mC (.int 1)) (mCons (mBin addD (mVar 4) (mC (.int 1))) mNil))) (gN 5) (mTB (mBin eqD (mBin modD (mVar 4) (mVar 5)) (mC (.int 0)))) (mBin mulD (mVar 5) (mBin ixD (mVar 2) (mBin subD (mVar 5) (mC (.int 1))))) [5]) mNil)) mNil)))
    (mExpr (mMeth okL appF (mVar 2) (mCons (mBin divD (mCall (fa1 sumF2) (mCons (mLc (mRg2I (mCons (mC (.int 1)) (mCons (mBin addD (mVar 4) (mC (.int 1))) mNil))) (gN 5) mYes (mBin mulD (mBin ixD (mVar 3) (mVar 5)) (mBin ixD (mVar 2) (mBin subD (mVar 4) (mVar 5)))) [5]) mNil)) (mVar 4)) mNil)))))
    (mRet (mCall (fa1 tupF) (mCons (mVar 2) mNil)))))))
theorem c_tree_counts {P : Program} {w : World} {K : PySem.W.Frag} {mg : Str → Option Value} {base : Heap} (T : Top K mg) : CallM P w K mg base 3 1 "tree_counts" m_tree_counts := by
  obtain ⟨fd, F, hm⟩ := T.def_ 41 (d := dd "tree_counts" 51) rfl rfl
  refine CallM.flat (call_def (st := top 51) F sc_tree_counts hm rfl rfl (fun _ _ _ _ _ _ us hl => match us, hl with | [_], _ => rfl) (fun cdv A outer s H E hr => ?_))
  have S := sc_tree_counts
  exact (iss_cons (is_set (i := 1) S.nd rfl (.inl rfl) (ie_call (c_sure_within T) (hr.mono (by omega)) rfl (ia_cons (ie_var (pv 0)) (ia_cons ie_int (ia_cons (ie_cst (T.cst 132 rfl) rfl) ia_nil)))))
    (iss_cons (is_asg (ie_tup (ia_cons (ie_lst (ia_cons ie_int ia_nil)) (ia_cons (ie_lst (ia_cons ie_int ia_nil)) ia_nil))) (ij_tup rfl (ijs_cons (ij_name (i := 2) S.nd rfl (.inr rfl)) (ijs_cons (ij_name (i := 3) S.nd rfl (.inr rfl)) ijs_nil))))
    (iss_cons (is_for rfl PassesOwn.never (ii_rg2 rfl (T.free 124 rfl) (ia_cons ie_int (ia_cons (ie_var (pv 1)) ia_nil))) (ij_name (i := 4) S.nd rfl (.inr rfl)) (iss_cons (is_expr (ie_meth mt_appD (ie_var (pv 3)) (ia_cons (ie_callB (call_sumD2 rfl) rfl (T.free 128 rfl) (by decide +kernel) (ia_cons (ie_lc (own := [("part", 5)]) rfl S.nd (ii_rg2 rfl (T.free 124 rfl) (ia_cons ie_int (ia_cons (ie_bin op_addD (ie_var (pv 4)) ie_int) ia_nil))) (blkOk_by (by kernel_rfl)) (fun _ _ _ _ _ => (ij_name (i := 5) S.nd rfl (.inl rfl))) (fun _ _ _ _ _ => (its_one (it_cmp (op_eqDD hr.u64) (ie_bin op_modD (ie_var (pv 4)) (ie_var (pv 5))) ie_int))) (fun _ _ _ _ _ => (ie_bin op_mulD (ie_var (pv 5)) (ie_ix (ie_var (pv 2)) (ie_bin op_subD (ie_var (pv 5)) ie_int)))) (by decide)) ia_nil)) ia_nil)))
    (iss_one (is_expr (ie_meth mt_appD (ie_var (pv 2)) (ia_cons (ie_bin op_divD (ie_callB (call_sumD2 rfl) rfl (T.free 128 rfl) (by decide +kernel) (ia_cons (ie_lc (own := [("part", 5)]) rfl S.nd (ii_rg2 rfl (T.free 124 rfl) (ia_cons ie_int (ia_cons (ie_bin op_addD (ie_var (pv 4)) ie_int) ia_nil))) (blkOk_by (by kernel_rfl)) (fun _ _ _ _ _ => (ij_name (i := 5) S.nd rfl (.inl rfl))) (fun _ _ _ _ _ => its_nil) (fun _ _ _ _ _ => (ie_bin op_mulD (ie_ix (ie_var (pv 3)) (ie_var (pv 5))) (ie_ix (ie_var (pv 2)) (ie_bin op_subD (ie_var (pv 4)) (ie_var (pv 5)))))) (by decide)) ia_nil)) (ie_var (pv 4))) ia_nil))))))
    (iss_one (is_ret (ie_callTy call_tupD rfl (T.free 129 rfl) (by decide +kernel) (ia_cons (ie_var (pv 2)) ia_nil)))))))
def g_tree_counts : FA := oneF 24 (.tup [.int 1, .int 1, .int 2, .int 4, .int 9, .int 20, .int 48, .int 115, .int 286, .int 719, .int 1842, .int 4766, .int 12486, .int 32973, .int 87811, .int 235381, .int 634847, .int 1721159, .int 4688676, .int 12826228, .int 35221832, .int 97055181, .int 268282855, .int 743724984])
theorem o_tree_counts {P : Program} {w : World} {K : PySem.W.Frag} {mg : Str → Option Value} {base : Heap} (T : Top K mg) : CallM P w K mg base 3 1 "tree_counts" g_tree_counts := (c_tree_counts T).one (by decide +kernel)
theorem sc_likeness_sum : FnScope ["many", "own", "whole", "_"] ["many"] (defScope (top 52)) := ⟨rfl, rfl, rfl, by decide +kernel, rfl, by decide +kernel, by decide +kernel⟩
def m_likeness_sum : FA := flatF ( mDef 3
    (mSeq (mSet 1 (mCallF 3 m_sure_within (mCons (mVar 0) (mCons (mC (.int 1)) (mCons (mBin addD (mC (.int 7)) (mC (.int 1))) mNil)))))
    (mSeq (mSet 2 (mC (.int 1)))
    (mSeq (mFor (mRg1I (mCons (mBin subD (mVar 1) (mC (.int 1))) mNil)) (gN 3) (mSet 2 (mBin mulD (mVar 2) (mVar 1))))
    (mRet (mCallF 2 m_made (mCons (mVar 2) (mCons (mCallF 1 m_product_to (mCons (mVar 1) mNil)) mNil))))))))
theorem c_likeness_sum {P : Program} {w : World} {K : PySem.W.Frag} {mg : Str → Option Value} {base : Heap} (T : Top K mg) : CallM P w K mg base 3 1 "likeness_sum" m_likeness_sum := by
  obtain ⟨fd, F, hm⟩ := T.def_ 42 (d := dd "likeness_sum" 52) rfl rfl
  refine CallM.flat (call_def (st := top 52) F sc_likeness_sum hm rfl rfl (fun _ _ _ _ _ _ us hl => match us, hl with | [_], _ => rfl) (fun cdv A outer s H E hr => ?_))
  have S := sc_likeness_sum
  exact (iss_cons (is_set (i := 1) S.nd rfl (.inl rfl) (ie_call (c_sure_within T) (hr.mono (by omega)) rfl (ia_cons (ie_var (pv 0)) (ia_cons ie_int (ia_cons (ie_bin op_addD (ie_cst (T.cst 133 rfl) rfl) ie_int) ia_nil)))))
    (iss_cons (is_set (i := 2) S.nd rfl (.inl rfl) ie_int)
    (iss_cons (is_for rfl PassesOwn.never (ii_rg1 rfl (T.free 124 rfl) (ia_cons (ie_bin op_subD (ie_var (pv 1)) ie_int) ia_nil)) (ij_name (i := 3) S.nd rfl (.inl rfl)) (iss_one (is_set (i := 2) S.nd rfl (.inl rfl) (ie_bin op_mulD (ie_var (pv 2)) (ie_var (pv 1))))))
    (iss_one (is_ret (ie_call (c_made T) (hr.mono (by omega)) rfl (ia_cons (ie_var (pv 2)) (ia_cons (ie_call (c_product_to T) (hr.mono (by omega)) rfl (ia_cons (ie_var (pv 1)) ia_nil)) ia_nil))))))))
theorem sc_trees_with : FnScope ["many", "leaves", "own", "tree"] ["many", "leaves"] (defScope (top 53)) := ⟨rfl, rfl, rfl, by decide +kernel, rfl, by decide +kernel, by decide +kernel⟩
def m_trees_with : FA := flatF ( mDef 2
    (mSeq (mSet 2 (mCallF 3 m_sure_within (mCons (mVar 0) (mCons (mC (.int 1)) (mCons (mBin addD (mC (.int 7)) (mC (.int 1))) mNil)))))
    (mSeq (mIfS (mNot (mTV (mCallF 1 m_is_count (mCons (mVar 1) mNil)))) mErr mNext)
    (mRet (mLc (mSeqI (mCallF 1 g_listed (mCons (mVar 2) mNil))) (gN 3) (mTB (mBin eqD (mMeth okS2 cntF (mCallF 1 (m_hangings_in 12) (mCons (mVar 3) mNil)) (mCons (mC (.int 0)) mNil)) (mVar 1))) (mVar 3) [3])))))
theorem c_trees_with {P : Program} {w : World} {K : PySem.W.Frag} {mg : Str → Option Value} {base : Heap} (T : Top K mg) : CallM P w K mg base 16 2 "trees_with" m_trees_with := by
  obtain ⟨fd, F, hm⟩ := T.def_ 43 (d := dd "trees_with" 53) rfl rfl
  refine CallM.flat (call_def (st := top 53) F sc_trees_with hm rfl rfl (fun _ _ _ _ _ _ us hl => match us, hl with | [_, _], _ => rfl) (fun cdv A outer s H E hr => ?_))
  have S := sc_trees_with
  exact (iss_cons (is_set (i := 2) S.nd rfl (.inl rfl) (ie_call (c_sure_within T) (hr.mono (by omega)) rfl (ia_cons (ie_var (pv 0)) (ia_cons ie_int (ia_cons (ie_bin op_addD (ie_cst (T.cst 133 rfl) rfl) ie_int) ia_nil)))))
    (iss_cons (is_if (it_not (it_val (ie_call (c_is_count T) (hr.mono (by omega)) rfl (ia_cons (ie_var (pv 1)) ia_nil)))) (iss_one is_never) iss_nil)
    (iss_one (is_ret (ie_lc (own := [("tree", 3)]) rfl S.nd (ii_seq (ie_call (o_listed T) (hr.mono (by omega)) rfl (ia_cons (ie_var (pv 2)) ia_nil))) (blkOk_by (by kernel_rfl)) (fun _ _ _ _ _ => (ij_name (i := 3) S.nd rfl (.inl rfl))) (fun _ _ _ _ _ => (its_one (it_cmp (op_eqDD hr.u64) (ie_meth (mt_cntD hr.u70) (ie_call (c_hangings_in T 12) (hr.mono (by omega)) rfl (ia_cons (ie_var (pv 3)) ia_nil)) (ia_cons ie_int ia_nil)) (ie_var (pv 1))))) (fun _ _ _ _ _ => (ie_var (pv 3))) (by decide))))))
theorem sc_hanging_counts : FnScope ["tree", "own", "many"] ["tree"] (defScope (top 54)) := ⟨rfl, rfl, rfl, by decide +kernel, rfl, by decide +kernel, by decide +kernel⟩
def m_hanging_counts : FA := flatF ( mDef 2
    (mSeq (mSet 1 (mCallF 1 (m_hangings_in 12) (mCons (mCallF 1 m_sure_tree (mCons (mVar 0) mNil)) mNil)))
    (mRet (mCall (fa1 tupF) (mCons (mLc (mRg1I (mCons (mBin addD (mCall (fa1 maxF2) (mCons (mVar 1) mNil)) (mC (.int 1))) mNil)) (gN 2) mYes (mMeth okS2 cntF (mVar 1) (mCons (mVar 2) mNil)) [2]) mNil)))))
theorem c_hanging_counts {P : Program} {w : World} {K : PySem.W.Frag} {mg : Str → Option Value} {base : Heap} (T : Top K mg) : CallM P w K mg base 16 1 "hanging_counts" m_hanging_counts := by
  obtain ⟨fd, F, hm⟩ := T.def_ 44 (d := dd "hanging_counts" 54) rfl rfl
  refine CallM.flat (call_def (st := top 54) F sc_hanging_counts hm rfl rfl (fun _ _ _ _ _ _ us hl => match us, hl with | [_], _ => rfl) (fun cdv A outer s H E hr => ?_))
  have S := sc_hanging_counts
  exact (iss_cons (is_set (i := 1) S.nd rfl (.inr rfl) (ie_call (c_hangings_in T 12) (hr.mono (by omega)) rfl (ia_cons (ie_call (c_sure_tree T) (hr.mono (by omega)) rfl (ia_cons (ie_var (pv 0)) ia_nil)) ia_nil)))
    (iss_one (is_ret (ie_callTy call_tupD rfl (T.free 129 rfl) (by decide +kernel) (ia_cons (ie_lc (own := [("many", 2)]) rfl S.nd (ii_rg1 rfl (T.free 124 rfl) (ia_cons (ie_bin op_addD (ie_callB (call_maxD2 rfl hr.u70) rfl (T.free 122 rfl) (by decide +kernel) (ia_cons (ie_var (pv 1)) ia_nil)) ie_int) ia_nil)) (blkOk_by (by kernel_rfl)) (fun _ _ _ _ _ => (ij_name (i := 2) S.nd rfl (.inl rfl))) (fun _ _ _ _ _ => its_nil) (fun _ _ _ _ _ => (ie_meth (mt_cntD hr.u70) (ie_var (pv 1)) (ia_cons (ie_var (pv 2)) ia_nil))) (by decide)) ia_nil)))))
theorem sc_is_coloured : FnScope ["thing", "near", "far", "part"] ["thing"] (defScope (top 59)) := ⟨rfl, rfl, rfl, by decide +kernel, rfl, by decide +kernel, by decide +kernel⟩
def b_is_coloured (self : FA) : MS :=
    (mSeq (mIfS (mOr (mNot (mTV (mCallF 2 m_is_tuple_of (mCons (mVar 0) (mCons (mC (.int 2)) mNil))))) (mOr (mNot (mTV (mCallF 2 m_is_below (mCons (mBin ixD (mVar 0) (mC (.int 0))) (mCons (mC (.int 2)) mNil))))) (mNot (mTV (mUn (isiF [.tup]) (mBin ixD (mVar 0) (mC (.int 1)))))))) (mRet (mC (.bl false))) mNext)
    (mSeq (mIfS (mNot (mTV (mCall (fa1 allF) (mCons (mLc (mSeqI (mBin ixD (mVar 0) (mC (.int 1)))) (gN 3) mYes (mCallF 1 self (mCons (mVar 3) mNil)) [3]) mNil)))) (mRet (mC (.bl false))) mNext)
    (mRet (mCall (fa1 allF) (mCons (mLc (mZipI (mCons (mBin ixD (mVar 0) (mC (.int 1))) (mCons (mSlice (mBin ixD (mVar 0) (mC (.int 1))) (mPart (mC (.int 1))) mNoPart) mNil))) (gTupM 2 (gsCons (gN 1) (gsCons (gN 2) gsNil))) mYes (mBin (cmpD oLe) (mVar 1) (mVar 2)) [1, 2]) mNil)))))
def m_is_coloured : Nat → FA := mRecF 3 b_is_coloured
theorem c_is_coloured {P : Program} {w : World} {K : PySem.W.Frag} {mg : Str → Option Value} {base : Heap} (T : Top K mg) (k : Nat) : CallM P w K mg base (3 + k + 1) 1 "is_coloured" (m_is_coloured k) := by
  obtain ⟨fd, F, hm⟩ := T.def_ 45 (d := dd "is_coloured" 59) rfl rfl
  refine call_recF (st := top 59) F sc_is_coloured hm rfl rfl (fun _ _ _ _ _ _ us hl => match us, hl with | [_], _ => rfl) (fun self k cself cdv A outer s H E hr => ?_) k
  have S := sc_is_coloured
  exact (iss_cons (is_if (it_w (iw_or (it_not (it_val (ie_call (c_is_tuple_of T) (hr.mono (by omega)) rfl (ia_cons (ie_var (pv 0)) (ia_cons (ie_cst (T.cst 135 rfl) rfl) ia_nil))))) (iw_or (it_not (it_val (ie_call (c_is_below T) (hr.mono (by omega)) rfl (ia_cons (ie_ix (ie_var (pv 0)) ie_int) (ia_cons (ie_cst (T.cst 136 rfl) rfl) ia_nil))))) (iw_or1 (it_not (it_val (ie_isi .tup (ie_ix (ie_var (pv 0)) ie_int) rfl (T.free 119 rfl) rfl (T.free 129 rfl) (by decide +kernel)))))))) (iss_one (is_ret ie_bl)) iss_nil)
    (iss_cons (is_if (it_not (it_val (ie_callB (call_allD rfl) rfl (T.free 115 rfl) (by decide +kernel) (ia_cons (ie_lc (own := [("part", 3)]) rfl S.nd (ii_seq (ie_ix (ie_var (pv 0)) ie_int)) (blkOk_by (by kernel_rfl)) (fun _ _ _ _ _ => (ij_name (i := 3) S.nd rfl (.inl rfl))) (fun _ _ _ _ _ => its_nil) (fun _ _ _ _ _ => (ie_call cself (hr.mono (by omega)) rfl (ia_cons (ie_var (pv 3)) ia_nil))) (by decide)) ia_nil)))) (iss_one (is_ret ie_bl)) iss_nil)
    (iss_one (is_ret (ie_callB (call_allD rfl) rfl (T.free 115 rfl) (by decide +kernel) (ia_cons (ie_lc (own := [("near", 1), ("far", 2)]) rfl S.nd (ii_zip rfl (T.free 130 rfl) (ia_cons (ie_ix (ie_var (pv 0)) ie_int) (ia_cons (ie_slice (ie_ix (ie_var (pv 0)) ie_int) (io_some ie_int) io_none) ia_nil))) (blkOk_by (by kernel_rfl)) (fun _ _ _ _ _ => (ij_tup rfl (ijs_cons (ij_name (i := 1) S.nd rfl (.inl rfl)) (ijs_cons (ij_name (i := 2) S.nd rfl (.inl rfl)) ijs_nil)))) (fun _ _ _ _ _ => its_nil) (fun _ _ _ _ _ => (ie_cmp (op_leD hr.u64) (ie_var (pv 1)) (ie_var (pv 2)))) (by decide)) ia_nil))))))
theorem sc_sure_coloured : FnScope ["tree", "own"] ["tree"] (defScope (top 60)) := ⟨rfl, rfl, rfl, by decide +kernel, rfl, by decide +kernel, by decide +kernel⟩
def m_sure_coloured : FA := flatF ( mDef 1
    (mSeq (mSet 1 (mCallF 1 (m_tupled 12) (mCons (mVar 0) mNil)))
    (mSeq (mIfS (mNot (mTV (mCallF 1 (m_is_coloured 12) (mCons (mVar 1) mNil)))) mErr mNext)
    (mRet (mVar 1)))))
theorem c_sure_coloured {P : Program} {w : World} {K : PySem.W.Frag} {mg : Str → Option Value} {base : Heap} (T : Top K mg) : CallM P w K mg base 17 1 "sure_coloured" m_sure_coloured := by
  obtain ⟨fd, F, hm⟩ := T.def_ 46 (d := dd "sure_coloured" 60) rfl rfl
  refine CallM.flat (call_def (st := top 60) F sc_sure_coloured hm rfl rfl (fun _ _ _ _ _ _ us hl => match us, hl with | [_], _ => rfl) (fun cdv A outer s H E hr => ?_))
  have S := sc_sure_coloured
  exact (iss_cons (is_set (i := 1) S.nd rfl (.inl rfl) (ie_call (c_tupled T 12) (hr.mono (by omega)) rfl (ia_cons (ie_var (pv 0)) ia_nil)))
    (iss_cons (is_if (it_not (it_val (ie_call (c_is_coloured T 12) (hr.mono (by omega)) rfl (ia_cons (ie_var (pv 1)) ia_nil)))) (iss_one is_never) iss_nil)
    (iss_one (is_ret (ie_var (pv 1))))))
theorem sc_sure_colour : FnScope ["colour"] ["colour"] (defScope (top 61)) := ⟨rfl, rfl, rfl, by decide +kernel, rfl, by decide +kernel, by decide +kernel⟩
def m_sure_colour : FA := flatF ( mDef 0
    (mSeq (mIfS (mNot (mTV (mCallF 2 m_is_below (mCons (mVar 0) (mCons (mC (.int 2)) mNil))))) mErr mNext)
    (mRet (mVar 0))))
theorem c_sure_colour {P : Program} {w : World} {K : PySem.W.Frag} {mg : Str → Option Value} {base : Heap} (T : Top K mg) : CallM P w K mg base 4 1 "sure_colour" m_sure_colour := by
  obtain ⟨fd, F, hm⟩ := T.def_ 47 (d := dd "sure_colour" 61) rfl rfl
  refine CallM.flat (call_def (st := top 61) F sc_sure_colour hm rfl rfl (fun _ _ _ _ _ _ us hl => match us, hl with | [_], _ => rfl) (fun cdv A outer s H E hr => ?_))
  have S := sc_sure_colour
  exact (iss_cons (is_if (it_not (it_val (ie_call (c_is_below T) (hr.mono (by omega)) rfl (ia_cons (ie_var (pv 0)) (ia_cons (ie_cst (T.cst 136 rfl) rfl) ia_nil))))) (iss_one is_never) iss_nil)
    (iss_one (is_ret (ie_var (pv 0)))))
theorem sc_coloured_of : FnScope ["colour", "trees", "own", "told", "tree"] ["colour", "trees"] (defScope (top 62)) := ⟨rfl, rfl, rfl, by decide +kernel, rfl, by decide +kernel, by decide +kernel⟩
def m_coloured_of : FA := flatF ( mDef 3
    (mSeq (mPar 2 3 (mCons (mCallF 1 m_sure_colour (mCons (mVar 0) mNil)) (mCons (mCallF 1 (m_tupled 12) (mCons (mVar 1) mNil)) mNil)))
    (mSeq (mIfS (mOr (mNot (mTV (mUn (isiF [.tup]) (mVar 3)))) (mNot (mTV (mCall (fa1 allF) (mCons (mLc (mSeqI (mVar 3)) (gN 4) mYes (mCallF 1 (m_is_coloured 12) (mCons (mVar 4) mNil)) [4]) mNil))))) mErr mNext)
    (mRet (mTup (mCons (mVar 2) (mCons (mCall (fa1 tupF) (mCons (mCall (fa1 srtF) (mCons (mVar 3) mNil)) mNil)) mNil)))))))
theorem c_coloured_of {P : Program} {w : World} {K : PySem.W.Frag} {mg : Str → Option Value} {base : Heap} (T : Top K mg) : CallM P w K mg base 17 2 "coloured_of" m_coloured_of := by
  obtain ⟨fd, F, hm⟩ := T.def_ 48 (d := dd "coloured_of" 62) rfl rfl
  refine CallM.flat (call_def (st := top 62) F sc_coloured_of hm rfl rfl (fun _ _ _ _ _ _ us hl => match us, hl with | [_, _], _ => rfl) (fun cdv A outer s H E hr => ?_))
  have S := sc_coloured_of
  exact (iss_cons (is_par (i := 2) (j := 3) rfl S.nd rfl rfl (by decide) rfl rfl (ia_cons (ie_call (c_sure_colour T) (hr.mono (by omega)) rfl (ia_cons (ie_var (pv 0)) ia_nil)) (ia_cons (ie_call (c_tupled T 12) (hr.mono (by omega)) rfl (ia_cons (ie_var (pv 1)) ia_nil)) ia_nil)))
    (iss_cons (is_if (it_w (iw_or (it_not (it_val (ie_isi .tup (ie_var (pv 3)) rfl (T.free 119 rfl) rfl (T.free 129 rfl) (by decide +kernel)))) (iw_or1 (it_not (it_val (ie_callB (call_allD rfl) rfl (T.free 115 rfl) (by decide +kernel) (ia_cons (ie_lc (own := [("tree", 4)]) rfl S.nd (ii_seq (ie_var (pv 3))) (blkOk_by (by kernel_rfl)) (fun _ _ _ _ _ => (ij_name (i := 4) S.nd rfl (.inl rfl))) (fun _ _ _ _ _ => its_nil) (fun _ _ _ _ _ => (ie_call (c_is_coloured T 12) (hr.mono (by omega)) rfl (ia_cons (ie_var (pv 4)) ia_nil))) (by decide)) ia_nil))))))) (iss_one is_never) iss_nil)
    (iss_one (is_ret (ie_tup (ia_cons (ie_var (pv 2)) (ia_cons (ie_callTy call_tupD rfl (T.free 129 rfl) (by decide +kernel) (ia_cons (ie_callB (call_srtD hr.u64) rfl (T.free 126 rfl) (by decide +kernel) (ia_cons (ie_var (pv 3)) ia_nil)) ia_nil)) ia_nil)))))))
theorem sc_size_coloured : FnScope ["tree", "part"] ["tree"] (defScope (top 63)) := ⟨rfl, rfl, rfl, by decide +kernel, rfl, by decide +kernel, by decide +kernel⟩
def b_size_coloured (self : FA) : MS :=
    (mRet (mBin addD (mC (.int 1)) (mCall (fa1 sumF2) (mCons (mLc (mSeqI (mBin ixD (mVar 0) (mC (.int 1)))) (gN 1) mYes (mCallF 1 self (mCons (mVar 1) mNil)) [1]) mNil))))
def m_size_coloured : Nat → FA := mRecF 1 b_size_coloured
theorem c_size_coloured {P : Program} {w : World} {K : PySem.W.Frag} {mg : Str → Option Value} {base : Heap} (T : Top K mg) (k : Nat) : CallM P w K mg base (0 + k + 1) 1 "size_coloured" (m_size_coloured k) := by
  obtain ⟨fd, F, hm⟩ := T.def_ 49 (d := dd "size_coloured" 63) rfl rfl
  refine call_recF (st := top 63) F sc_size_coloured hm rfl rfl (fun _ _ _ _ _ _ us hl => match us, hl with | [_], _ => rfl) (fun self k cself cdv A outer s H E hr => ?_) k
  have S := sc_size_coloured
  exact (iss_one (is_ret (ie_bin op_addD ie_int (ie_callB (call_sumD2 rfl) rfl (T.free 128 rfl) (by decide +kernel) (ia_cons (ie_lc (own := [("part", 1)]) rfl S.nd (ii_seq (ie_ix (ie_var (pv 0)) ie_int)) (blkOk_by (by kernel_rfl)) (fun _ _ _ _ _ => (ij_name (i := 1) S.nd rfl (.inl rfl))) (fun _ _ _ _ _ => its_nil) (fun _ _ _ _ _ => (ie_call cself (hr.mono (by omega)) rfl (ia_cons (ie_var (pv 1)) ia_nil))) (by decide)) ia_nil)))))
theorem sc_coloured_size : FnScope ["tree"] ["tree"] (defScope (top 64)) := ⟨rfl, rfl, rfl, by decide +kernel, rfl, by decide +kernel, by decide +kernel⟩
def m_coloured_size : FA := flatF ( mDef 0
    (mRet (mCallF 1 (m_size_coloured 12) (mCons (mCallF 1 m_sure_coloured (mCons (mVar 0) mNil)) mNil))))
theorem c_coloured_size {P : Program} {w : World} {K : PySem.W.Frag} {mg : Str → Option Value} {base : Heap} (T : Top K mg) : CallM P w K mg base 18 1 "coloured_size" m_coloured_size := by
  obtain ⟨fd, F, hm⟩ := T.def_ 50 (d := dd "coloured_size" 64) rfl rfl
  refine CallM.flat (call_def (st := top 64) F sc_coloured_size hm rfl rfl (fun _ _ _ _ _ _ us hl => match us, hl with | [_], _ => rfl) (fun cdv A outer s H E hr => ?_))
  have S := sc_coloured_size
  exact (iss_one (is_ret (ie_call (c_size_coloured T 12) (hr.mono (by omega)) rfl (ia_cons (ie_call (c_sure_coloured T) (hr.mono (by omega)) rfl (ia_cons (ie_var (pv 0)) ia_nil)) ia_nil))))
theorem sc_bare_in : FnScope ["tree", "part"] ["tree"] (defScope (top 65)) := ⟨rfl, rfl, rfl, by decide +kernel, rfl, by decide +kernel, by decide +kernel⟩
def b_bare_in (self : FA) : MS :=
    (mRet (mCall (fa1 tupF) (mCons (mCall (fa1 srtF) (mCons (mLc (mSeqI (mBin ixD (mVar 0) (mC (.int 1)))) (gN 1) mYes (mCallF 1 self (mCons (mVar 1) mNil)) [1]) mNil)) mNil)))
def m_bare_in : Nat → FA := mRecF 1 b_bare_in
theorem c_bare_in {P : Program} {w : World} {K : PySem.W.Frag} {mg : Str → Option Value} {base : Heap} (T : Top K mg) (k : Nat) : CallM P w K mg base (0 + k + 1) 1 "bare_in" (m_bare_in k) := by
  obtain ⟨fd, F, hm⟩ := T.def_ 51 (d := dd "bare_in" 65) rfl rfl
  refine call_recF (st := top 65) F sc_bare_in hm rfl rfl (fun _ _ _ _ _ _ us hl => match us, hl with | [_], _ => rfl) (fun self k cself cdv A outer s H E hr => ?_) k
  have S := sc_bare_in
  exact (iss_one (is_ret (ie_callTy call_tupD rfl (T.free 129 rfl) (by decide +kernel) (ia_cons (ie_callB (call_srtD hr.u64) rfl (T.free 126 rfl) (by decide +kernel) (ia_cons (ie_lc (own := [("part", 1)]) rfl S.nd (ii_seq (ie_ix (ie_var (pv 0)) ie_int)) (blkOk_by (by kernel_rfl)) (fun _ _ _ _ _ => (ij_name (i := 1) S.nd rfl (.inl rfl))) (fun _ _ _ _ _ => its_nil) (fun _ _ _ _ _ => (ie_call cself (hr.mono (by omega)) rfl (ia_cons (ie_var (pv 1)) ia_nil))) (by decide)) ia_nil)) ia_nil))))
theorem sc_bare_tree : FnScope ["tree"] ["tree"] (defScope (top 66)) := ⟨rfl, rfl, rfl, by decide +kernel, rfl, by decide +kernel, by decide +kernel⟩
def m_bare_tree : FA := flatF ( mDef 0
    (mRet (mCallF 1 (m_bare_in 12) (mCons (mCallF 1 m_sure_coloured (mCons (mVar 0) mNil)) mNil))))
theorem c_bare_tree {P : Program} {w : World} {K : PySem.W.Frag} {mg : Str → Option Value} {base : Heap} (T : Top K mg) : CallM P w K mg base 18 1 "bare_tree" m_bare_tree := by
  obtain ⟨fd, F, hm⟩ := T.def_ 52 (d := dd "bare_tree" 66) rfl rfl
  refine CallM.flat (call_def (st := top 66) F sc_bare_tree hm rfl rfl (fun _ _ _ _ _ _ us hl => match us, hl with | [_], _ => rfl) (fun cdv A outer s H E hr => ?_))
  have S := sc_bare_tree
  exact (iss_one (is_ret (ie_call (c_bare_in T 12) (hr.mono (by omega)) rfl (ia_cons (ie_call (c_sure_coloured T) (hr.mono (by omega)) rfl (ia_cons (ie_var (pv 0)) ia_nil)) ia_nil))))
theorem sc_hung_in : FnScope ["one", "other"] ["one", "other"] (defScope (top 67)) := ⟨rfl, rfl, rfl, by decide +kernel, rfl, by decide +kernel, by decide +kernel⟩
def m_hung_in : FA := flatF ( mDef 0
    (mRet (mTup (mCons (mBin ixD (mVar 0) (mC (.int 0))) (mCons (mCall (fa1 tupF) (mCons (mCall (fa1 srtF) (mCons (mBin addD (mBin ixD (mVar 0) (mC (.int 1))) (mTup (mCons (mVar 1) mNil))) mNil)) mNil)) mNil)))))
theorem c_hung_in {P : Program} {w : World} {K : PySem.W.Frag} {mg : Str → Option Value} {base : Heap} (T : Top K mg) : CallM P w K mg base 1 2 "hung_in" m_hung_in := by
  obtain ⟨fd, F, hm⟩ := T.def_ 53 (d := dd "hung_in" 67) rfl rfl
  refine CallM.flat (call_def (st := top 67) F sc_hung_in hm rfl rfl (fun _ _ _ _ _ _ us hl => match us, hl with | [_, _], _ => rfl) (fun cdv A outer s H E hr => ?_))
  have S := sc_hung_in
  exact (iss_one (is_ret (ie_tup (ia_cons (ie_ix (ie_var (pv 0)) ie_int) (ia_cons (ie_callTy call_tupD rfl (T.free 129 rfl) (by decide +kernel) (ia_cons (ie_callB (call_srtD hr.u64) rfl (T.free 126 rfl) (by decide +kernel) (ia_cons (ie_bin op_addD (ie_ix (ie_var (pv 0)) ie_int) (ie_tup (ia_cons (ie_var (pv 1)) ia_nil))) ia_nil)) ia_nil)) ia_nil)))))
theorem sc_grown_coloured : FnScope ["tree", "found", "place", "part", "rest", "colour", "own"] ["tree"] (defScope (top 68)) := ⟨rfl, rfl, rfl, by decide +kernel, rfl, by decide +kernel, by decide +kernel⟩
def b_grown_coloured (self : FA) : MS :=
    (mSeq (mSet 1 (mLc (mRg1I (mCons (mC (.int 2)) mNil)) (gN 5) mYes (mCallF 2 m_hung_in (mCons (mVar 0) (mCons (mTup (mCons (mVar 5) (mCons (mTup mNil) mNil))) mNil))) [5]))
    (mSeq (mFor (mEnumI (mBin ixD (mVar 0) (mC (.int 1)))) (gTupM 2 (gsCons (gN 2) (gsCons (gN 3) gsNil))) (mSeq (mSet 4 (mBin addD (mSlice (mBin ixD (mVar 0) (mC (.int 1))) mNoPart (mPart (mVar 2))) (mSlice (mBin ixD (mVar 0) (mC (.int 1))) (mPart (mBin addD (mVar 2) (mC (.int 1)))) mNoPart)))
    (mExpr (mMeth okL extF (mVar 1) (mCons (mLc (mSeqI (mCallF 1 self (mCons (mVar 3) mNil))) (gN 6) mYes (mTup (mCons (mBin ixD (mVar 0) (mC (.int 0))) (mCons (mCall (fa1 tupF) (mCons (mCall (fa1 srtF) (mCons (mBin addD (mVar 4) (mTup (mCons (mVar 6) mNil))) mNil)) mNil)) mNil))) [6]) mNil)))))
    (mRet (mVar 1))))
def m_grown_coloured : Nat → FA := mRecF 6 b_grown_coloured
theorem c_grown_coloured {P : Program} {w : World} {K : PySem.W.Frag} {mg : Str → Option Value} {base : Heap} (T : Top K mg) (k : Nat) : CallM P w K mg base (1 + k + 1) 1 "grown_coloured" (m_grown_coloured k) := by
  obtain ⟨fd, F, hm⟩ := T.def_ 54 (d := dd "grown_coloured" 68) rfl rfl
  refine call_recF (st := top 68) F sc_grown_coloured hm rfl rfl (fun _ _ _ _ _ _ us hl => match us, hl with | [_], _ => rfl) (fun self k cself cdv A outer s H E hr => ?_) k
  have S := sc_grown_coloured
  exact (iss_cons (is_setLc (i := 1) (own := [("colour", 5)]) rfl S.nd rfl rfl (sw_true rfl rfl rfl (by decide +kernel)) (ii_rg1 rfl (T.free 124 rfl) (ia_cons (ie_cst (T.cst 136 rfl) rfl) ia_nil)) (blkOk_by (by kernel_rfl)) (fun _ _ _ _ _ => (ij_name (i := 5) S.nd rfl (.inl rfl))) (fun _ _ _ _ _ => its_nil) (fun _ _ _ _ _ => (ie_call (c_hung_in T) (hr.mono (by omega)) rfl (ia_cons (ie_var (pv 0)) (ia_cons (ie_tup (ia_cons (ie_var (pv 5)) (ia_cons (ie_tup ia_nil) ia_nil))) ia_nil)))) (by decide))
    (iss_cons (is_for rfl PassesOwn.never (ii_enum rfl (T.free 117 rfl) (ie_ix (ie_var (pv 0)) ie_int)) (ij_tup rfl (ijs_cons (ij_name (i := 2) S.nd rfl (.inl rfl)) (ijs_cons (ij_name (i := 3) S.nd rfl (.inl rfl)) ijs_nil))) (iss_cons (is_set (i := 4) S.nd rfl (.inr rfl) (ie_bin op_addD (ie_slice (ie_ix (ie_var (pv 0)) ie_int) io_none (io_some (ie_var (pv 2)))) (ie_slice (ie_ix (ie_var (pv 0)) ie_int) (io_some (ie_bin op_addD (ie_var (pv 2)) ie_int)) io_none)))
    (iss_one (is_expr (ie_meth mt_extD (ie_var (pv 1)) (ia_cons (ie_lc (own := [("own", 6)]) rfl S.nd (ii_seq (ie_call cself (hr.mono (by omega)) rfl (ia_cons (ie_var (pv 3)) ia_nil))) (blkOk_by (by kernel_rfl)) (fun _ _ _ _ _ => (ij_name (i := 6) S.nd rfl (.inl rfl))) (fun _ _ _ _ _ => its_nil) (fun _ _ _ _ _ => (ie_tup (ia_cons (ie_ix (ie_var (pv 0)) ie_int) (ia_cons (ie_callTy call_tupD rfl (T.free 129 rfl) (by decide +kernel) (ia_cons (ie_callB (call_srtD hr.u64) rfl (T.free 126 rfl) (by decide +kernel) (ia_cons (ie_bin op_addD (ie_var (pv 4)) (ie_tup (ia_cons (ie_var (pv 6)) ia_nil))) ia_nil)) ia_nil)) ia_nil)))) (by decide)) ia_nil))))))
    (iss_one (is_ret (ie_var (pv 1))))))
theorem sc_listed_coloured : FnScope ["many", "found", "_", "longer", "tree"] ["many"] (defScope (top 69)) := ⟨rfl, rfl, rfl, by decide +kernel, rfl, by decide +kernel, by decide +kernel⟩
def m_listed_coloured : FA := flatF ( mDef 4
    (mSeq (mSet 1 (mTup (mCons (mTup (mCons (mC (.int 0)) (mCons (mTup mNil) mNil))) (mCons (mTup (mCons (mC (.int 1)) (mCons (mTup mNil) mNil))) mNil))))
    (mSeq (mFor (mRg1I (mCons (mBin subD (mVar 0) (mC (.int 1))) mNil)) (gN 2) (mSeq (mSet 3 (mLst mNil))
    (mSeq (mFor (mSeqI (mVar 1)) (gN 4) (mExpr (mMeth okL extF (mVar 3) (mCons (mCallF 1 (m_grown_coloured 12) (mCons (mVar 4) mNil)) mNil))))
    (mSet 1 (mCallF 1 m_set_of (mCons (mVar 3) mNil))))))
    (mRet (mVar 1)))))
theorem c_listed_coloured {P : Program} {w : World} {K : PySem.W.Frag} {mg : Str → Option Value} {base : Heap} (T : Top K mg) : CallM P w K mg base 15 1 "listed_coloured" m_listed_coloured := by
  obtain ⟨fd, F, hm⟩ := T.def_ 55 (d := dd "listed_coloured" 69) rfl rfl
  refine CallM.flat (call_def (st := top 69) F sc_listed_coloured hm rfl rfl (fun _ _ _ _ _ _ us hl => match us, hl with | [_], _ => rfl) (fun cdv A outer s H E hr => ?_))
  have S := sc_listed_coloured
  exact (iss_cons (is_set (i := 1) S.nd rfl (.inl rfl) (ie_tup (ia_cons (ie_tup (ia_cons ie_int (ia_cons (ie_tup ia_nil) ia_nil))) (ia_cons (ie_tup (ia_cons ie_int (ia_cons (ie_tup ia_nil) ia_nil))) ia_nil))))
    (iss_cons (is_for rfl PassesOwn.never (ii_rg1 rfl (T.free 124 rfl) (ia_cons (ie_bin op_subD (ie_var (pv 0)) ie_int) ia_nil)) (ij_name (i := 2) S.nd rfl (.inl rfl)) (iss_cons (is_set (i := 3) S.nd rfl (.inl rfl) (ie_lst ia_nil))
    (iss_cons (is_for rfl PassesOwn.never (ii_seq (ie_var (pv 1))) (ij_name (i := 4) S.nd rfl (.inl rfl)) (iss_one (is_expr (ie_meth mt_extD (ie_var (pv 3)) (ia_cons (ie_call (c_grown_coloured T 12) (hr.mono (by omega)) rfl (ia_cons (ie_var (pv 4)) ia_nil)) ia_nil)))))
    (iss_one (is_set (i := 1) S.nd rfl (.inl rfl) (ie_call (c_set_of T) (hr.mono (by omega)) rfl (ia_cons (ie_var (pv 3)) ia_nil)))))))
    (iss_one (is_ret (ie_var (pv 1))))))
theorem sc_coloured_trees : FnScope ["many"] ["many"] (defScope (top 70)) := ⟨rfl, rfl, rfl, by decide +kernel, rfl, by decide +kernel, by decide +kernel⟩
def m_coloured_trees : FA := flatF ( mDef 0
    (mRet (mCall (fa1 lstF) (mCons (mCallF 1 m_listed_coloured (mCons (mCallF 3 m_sure_within (mCons (mVar 0) (mCons (mC (.int 1)) (mCons (mC (.int 5)) mNil)))) mNil)) mNil))))
theorem c_coloured_trees {P : Program} {w : World} {K : PySem.W.Frag} {mg : Str → Option Value} {base : Heap} (T : Top K mg) : CallM P w K mg base 16 1 "coloured_trees" m_coloured_trees := by
  obtain ⟨fd, F, hm⟩ := T.def_ 56 (d := dd "coloured_trees" 70) rfl rfl
  refine CallM.flat (call_def (st := top 70) F sc_coloured_trees hm rfl rfl (fun _ _ _ _ _ _ us hl => match us, hl with | [_], _ => rfl) (fun cdv A outer s H E hr => ?_))
  have S := sc_coloured_trees
  exact (iss_one (is_ret (ie_callTy call_lstD rfl (T.free 121 rfl) (by decide +kernel) (ia_cons (ie_call (c_listed_coloured T) (hr.mono (by omega)) rfl (ia_cons (ie_call (c_sure_within T) (hr.mono (by omega)) rfl (ia_cons (ie_var (pv 0)) (ia_cons ie_int (ia_cons (ie_cst (T.cst 134 rfl) rfl) ia_nil)))) ia_nil)) ia_nil))))
theorem sc_painted_in : FnScope ["tree", "colour", "part"] ["tree", "colour"] (defScope (top 71)) := ⟨rfl, rfl, rfl, by decide +kernel, rfl, by decide +kernel, by decide +kernel⟩
def b_painted_in (self : FA) : MS :=
    (mRet (mTup (mCons (mVar 1) (mCons (mCall (fa1 tupF) (mCons (mCall (fa1 srtF) (mCons (mLc (mSeqI (mVar 0)) (gN 2) mYes (mCallF 2 self (mCons (mVar 2) (mCons (mVar 1) mNil))) [2]) mNil)) mNil)) mNil))))
def m_painted_in : Nat → FA := mRecF 1 b_painted_in
theorem c_painted_in {P : Program} {w : World} {K : PySem.W.Frag} {mg : Str → Option Value} {base : Heap} (T : Top K mg) (k : Nat) : CallM P w K mg base (0 + k + 1) 2 "painted_in" (m_painted_in k) := by
  obtain ⟨fd, F, hm⟩ := T.def_ 57 (d := dd "painted_in" 71) rfl rfl
  refine call_recF (st := top 71) F sc_painted_in hm rfl rfl (fun _ _ _ _ _ _ us hl => match us, hl with | [_, _], _ => rfl) (fun self k cself cdv A outer s H E hr => ?_) k
  have S := sc_painted_in
  exact (iss_one (is_ret (ie_tup (ia_cons (ie_var (pv 1)) (ia_cons (ie_callTy call_tupD rfl (T.free 129 rfl) (by decide +kernel) (ia_cons (ie_callB (call_srtD hr.u64) rfl (T.free 126 rfl) (by decide +kernel) (ia_cons (ie_lc (own := [("part", 2)]) rfl S.nd (ii_seq (ie_var (pv 0))) (blkOk_by (by kernel_rfl)) (fun _ _ _ _ _ => (ij_name (i := 2) S.nd rfl (.inl rfl))) (fun _ _ _ _ _ => its_nil) (fun _ _ _ _ _ => (ie_call cself (hr.mono (by omega)) rfl (ia_cons (ie_var (pv 2)) (ia_cons (ie_var (pv 1)) ia_nil)))) (by decide)) ia_nil)) ia_nil)) ia_nil)))))
theorem sc_painted : FnScope ["tree", "colour", "own"] ["tree", "colour"] (defScope (top 72)) := ⟨rfl, rfl, rfl, by decide +kernel, rfl, by decide +kernel, by decide +kernel⟩
def m_painted : FA := flatF ( mDef 1
    (mSeq (mSet 2 (mCallF 1 m_sure_tree (mCons (mVar 0) mNil)))
    (mRet (mCallF 2 (m_painted_in 12) (mCons (mVar 2) (mCons (mCallF 1 m_sure_colour (mCons (mVar 1) mNil)) mNil))))))
theorem c_painted {P : Program} {w : World} {K : PySem.W.Frag} {mg : Str → Option Value} {base : Heap} (T : Top K mg) : CallM P w K mg base 16 2 "painted" m_painted := by
  obtain ⟨fd, F, hm⟩ := T.def_ 58 (d := dd "painted" 72) rfl rfl
  refine CallM.flat (call_def (st := top 72) F sc_painted hm rfl rfl (fun _ _ _ _ _ _ us hl => match us, hl with | [_, _], _ => rfl) (fun cdv A outer s H E hr => ?_))
  have S := sc_painted
  exact (iss_cons (is_set (i := 2) S.nd rfl (.inl rfl) (ie_call (c_sure_tree T) (hr.mono (by omega)) rfl (ia_cons (ie_var (pv 0)) ia_nil)))
    (iss_one (is_ret (ie_call (c_painted_in T 12) (hr.mono (by omega)) rfl (ia_cons (ie_var (pv 2)) (ia_cons (ie_call (c_sure_colour T) (hr.mono (by omega)) rfl (ia_cons (ie_var (pv 1)) ia_nil)) ia_nil))))))
theorem sc_parted : FnScope ["tree", "found", "part", "longer", "own", "its", "stump", "fallen"] ["tree"] (defScope (top 74)) := ⟨rfl, rfl, rfl, by decide +kernel, rfl, by decide +kernel, by decide +kernel⟩
def b_parted (self : FA) : MS :=
    (mSeq (mSet 1 (mLst (mCons (mTup (mCons (mTup mNil) (mCons (mTup mNil) mNil))) mNil)))
    (mSeq (mFor (mSeqI (mVar 0)) (gN 2) (mSeq (mSet 3 (mLc (mSeqI (mVar 1)) (gTupM 2 (gsCons (gN 6) (gsCons (gN 7) gsNil))) mYes (mTup (mCons (mVar 6) (mCons (mBin addD (mVar 7) (mTup (mCons (mVar 2) mNil))) mNil))) [6, 7]))
    (mSeq (mFor (mSeqI (mCallF 1 self (mCons (mVar 2) mNil))) (gTupM 2 (gsCons (gN 4) (gsCons (gN 5) gsNil))) (mExpr (mMeth okL extF (mVar 3) (mCons (mLc (mSeqI (mVar 1)) (gTupM 2 (gsCons (gN 6) (gsCons (gN 7) gsNil))) mYes (mTup (mCons (mCall (fa1 tupF) (mCons (mCall (fa1 srtF) (mCons (mBin addD (mVar 6) (mTup (mCons (mVar 4) mNil))) mNil)) mNil)) (mCons (mBin addD (mVar 7) (mVar 5)) mNil))) [6, 7]) mNil))))
    (mSet 1 (mVar 3)))))
    (mRet (mVar 1))))
def m_parted : Nat → FA := mRecF 7 b_parted
theorem c_parted {P : Program} {w : World} {K : PySem.W.Frag} {mg : Str → Option Value} {base : Heap} (T : Top K mg) (k : Nat) : CallM P w K mg base (0 + k + 1) 1 "parted" (m_parted k) := by
  obtain ⟨fd, F, hm⟩ := T.def_ 59 (d := dd "parted" 74) rfl rfl
  refine call_recF (st := top 74) F sc_parted hm rfl rfl (fun _ _ _ _ _ _ us hl => match us, hl with | [_], _ => rfl) (fun self k cself cdv A outer s H E hr => ?_) k
  have S := sc_parted
  exact (iss_cons (is_set (i := 1) S.nd rfl (.inl rfl) (ie_lst (ia_cons (ie_tup (ia_cons (ie_tup ia_nil) (ia_cons (ie_tup ia_nil) ia_nil))) ia_nil)))
    (iss_cons (is_for rfl PassesOwn.never (ii_seq (ie_var (pv 0))) (ij_name (i := 2) S.nd rfl (.inr rfl)) (iss_cons (is_setLc (i := 3) (own := [("stump", 6), ("fallen", 7)]) rfl S.nd rfl rfl (sw_true rfl rfl rfl (by decide +kernel)) (ii_seq (ie_var (pv 1))) (blkOk_by (by kernel_rfl)) (fun _ _ _ _ _ => (ij_tup rfl (ijs_cons (ij_name (i := 6) S.nd rfl (.inl rfl)) (ijs_cons (ij_name (i := 7) S.nd rfl (.inl rfl)) ijs_nil)))) (fun _ _ _ _ _ => its_nil) (fun _ _ _ _ _ => (ie_tup (ia_cons (ie_var (pv 6)) (ia_cons (ie_bin op_addD (ie_var (pv 7)) (ie_tup (ia_cons (ie_var (pv 2)) ia_nil))) ia_nil)))) (by decide))
    (iss_cons (is_for rfl PassesOwn.never (ii_seq (ie_call cself (hr.mono (by omega)) rfl (ia_cons (ie_var (pv 2)) ia_nil))) (ij_tup rfl (ijs_cons (ij_name (i := 4) S.nd rfl (.inr rfl)) (ijs_cons (ij_name (i := 5) S.nd rfl (.inr rfl)) ijs_nil))) (iss_one (is_expr (ie_meth mt_extD (ie_var (pv 3)) (ia_cons (ie_lc (own := [("stump", 6), ("fallen", 7)]) rfl S.nd (ii_seq (ie_var (pv 1))) (blkOk_by (by kernel_rfl)) (fun _ _ _ _ _ => (ij_tup rfl (ijs_cons (ij_name (i := 6) S.nd rfl (.inl rfl)) (ijs_cons (ij_name (i := 7) S.nd rfl (.inl rfl)) ijs_nil)))) (fun _ _ _ _ _ => its_nil) (fun _ _ _ _ _ => (ie_tup (ia_cons (ie_callTy call_tupD rfl (T.free 129 rfl) (by decide +kernel) (ia_cons (ie_callB (call_srtD hr.u64) rfl (T.free 126 rfl) (by decide +kernel) (ia_cons (ie_bin op_addD (ie_var (pv 6)) (ie_tup (ia_cons (ie_var (pv 4)) ia_nil))) ia_nil)) ia_nil)) (ia_cons (ie_bin op_addD (ie_var (pv 7)) (ie_var (pv 5))) ia_nil)))) (by decide)) ia_nil)))))
    (iss_one (is_set (i := 1) S.nd rfl (.inl rfl) (ie_var (pv 3)))))))
    (iss_one (is_ret (ie_var (pv 1))))))
theorem sc_tied_cuts : FnScope ["tree", "found", "stump", "fallen", "own"] ["tree"] (defScope (top 77)) := ⟨rfl, rfl, rfl, by decide +kernel, rfl, by decide +kernel, by decide +kernel⟩
def m_tied_cuts : FA := ( mDef 4
    (mSeq (mSet 1 mDnew)
    (mSeq (mFor (mSeqI (mCallF 1 (m_parted 12) (mCons (mVar 0) mNil))) (gTupM 2 (gsCons (gN 2) (gsCons (gN 3) gsNil))) (mSeq (mSet 4 (mTup (mCons (mCall (fa1 tupF) (mCons (mCall (fa1 srtF) (mCons (mVar 3) mNil)) mNil)) (mCons (mVar 2) mNil))))
    (mAsg (mBin addD (mMeth okDc getF (mVar 1) (mCons (mVar 4) (mCons (mC (.int 0)) mNil))) (mC (.int 1))) (gSubD (mVar 1) (mVar 4)))))
    (mRet (mVar 1)))))
theorem c_tied_cuts {P : Program} {w : World} {K : PySem.W.Frag} {mg : Str → Option Value} {base : Heap} (T : Top K mg) : CallM P w K mg base 14 1 "tied_cuts" m_tied_cuts := by
  obtain ⟨fd, F, hm⟩ := T.def_ 60 (d := dd "tied_cuts" 77) rfl rfl
  refine id (call_def (st := top 77) F sc_tied_cuts hm rfl rfl (fun _ _ _ _ _ _ us hl => match us, hl with | [_], _ => rfl) (fun cdv A outer s H E hr => ?_))
  have S := sc_tied_cuts
  exact (iss_cons (is_set (i := 1) S.nd rfl (.inl rfl) ie_dnew)
    (iss_cons (is_for rfl PassesOwn.never (ii_seq (ie_call (c_parted T 12) (hr.mono (by omega)) rfl (ia_cons (ie_var (pv 0)) ia_nil))) (ij_tup rfl (ijs_cons (ij_name (i := 2) S.nd rfl (.inl rfl)) (ijs_cons (ij_name (i := 3) S.nd rfl (.inl rfl)) ijs_nil))) (iss_cons (is_set (i := 4) S.nd rfl (.inl rfl) (ie_tup (ia_cons (ie_callTy call_tupD rfl (T.free 129 rfl) (by decide +kernel) (ia_cons (ie_callB (call_srtD hr.u64) rfl (T.free 126 rfl) (by decide +kernel) (ia_cons (ie_var (pv 3)) ia_nil)) ia_nil)) (ia_cons (ie_var (pv 2)) ia_nil))))
    (iss_one (is_asg (ie_bin op_addD (ie_meth (mt_getD hr.u64) (ie_var (pv 1)) (ia_cons (ie_var (pv 4)) (ia_cons ie_int ia_nil))) ie_int) (ij_dsub hr.u64 (ie_var (pv 1)) (ie_var (pv 4)))))))
    (iss_one (is_ret (ie_var (pv 1))))))
theorem sc_cuts_of : FnScope ["tree", "own", "found", "place", "fallen", "stump", "many", "_"] ["tree"] (defScope (top 78)) := ⟨rfl, rfl, rfl, by decide +kernel, rfl, by decide +kernel, by decide +kernel⟩
def m_cuts_of : FA := flatF ( mDef 7
    (mSeq (mSet 1 (mCallF 1 m_sure_tree (mCons (mVar 0) mNil)))
    (mSeq (mSet 2 (mLc (mSeqI (mUn sitF (mCallF 1 m_tied_cuts (mCons (mVar 1) mNil)))) (gTupM 2 (gsCons (gTupM 2 (gsCons (gN 4) (gsCons (gN 5) gsNil))) (gsCons (gN 6) gsNil))) mYes (mTup (mCons (mVar 5) (mCons (mVar 4) (mCons (mVar 6) mNil)))) [4, 5, 6]))
    (mSeq (mSet 3 (mCall (fa1 lenF) (mCons (mLc (mSeqI (mVar 2)) (gTupM 3 (gsCons (gN 7) (gsCons (gN 4) (gsCons (gN 7) gsNil)))) (mTB (mBin (cmpD oLt) (mVar 4) (mTup (mCons (mVar 1) mNil)))) (mVar 4) [7, 4]) mNil)))
    (mRet (mBin addD (mBin addD (mSlice (mVar 2) mNoPart (mPart (mVar 3))) (mLst (mCons (mTup (mCons (mC .non) (mCons (mTup (mCons (mVar 1) mNil)) (mCons (mC (.int 1)) mNil)))) mNil))) (mSlice (mVar 2) (mPart (mVar 3)) mNoPart)))))))
theorem c_cuts_of {P : Program} {w : World} {K : PySem.W.Frag} {mg : Str → Option Value} {base : Heap} (T : Top K mg) : CallM P w K mg base 16 1 "cuts_of" m_cuts_of := by
  obtain ⟨fd, F, hm⟩ := T.def_ 61 (d := dd "cuts_of" 78) rfl rfl
  refine CallM.flat (call_def (st := top 78) F sc_cuts_of hm rfl rfl (fun _ _ _ _ _ _ us hl => match us, hl with | [_], _ => rfl) (fun cdv A outer s H E hr => ?_))
  have S := sc_cuts_of
  exact (iss_cons (is_set (i := 1) S.nd rfl (.inr rfl) (ie_call (c_sure_tree T) (hr.mono (by omega)) rfl (ia_cons (ie_var (pv 0)) ia_nil)))
    (iss_cons (is_setLc (i := 2) (own := [("fallen", 4), ("stump", 5), ("many", 6)]) rfl S.nd rfl rfl (sw_true rfl rfl rfl (by decide +kernel)) (ii_seq (ie_sit rfl hr.u64 (T.free 126 rfl) (ie_call (c_tied_cuts T) (hr.mono (by omega)) rfl (ia_cons (ie_var (pv 1)) ia_nil)))) (blkOk_by (by kernel_rfl)) (fun _ _ _ _ _ => (ij_tup rfl (ijs_cons (ij_tup rfl (ijs_cons (ij_name (i := 4) S.nd rfl (.inl rfl)) (ijs_cons (ij_name (i := 5) S.nd rfl (.inl rfl)) ijs_nil))) (ijs_cons (ij_name (i := 6) S.nd rfl (.inl rfl)) ijs_nil)))) (fun _ _ _ _ _ => its_nil) (fun _ _ _ _ _ => (ie_tup (ia_cons (ie_var (pv 5)) (ia_cons (ie_var (pv 4)) (ia_cons (ie_var (pv 6)) ia_nil))))) (by decide))
    (iss_cons (is_set (i := 3) S.nd rfl (.inl rfl) (ie_callB call_lenD rfl (T.free 120 rfl) PySem.boot_len (ia_cons (ie_lc (own := [("_", 7), ("fallen", 4)]) rfl S.nd (ii_seq (ie_var (pv 2))) (blkOk_by (by kernel_rfl)) (fun _ _ _ _ _ => (ij_tup rfl (ijs_cons (ij_name (i := 7) S.nd rfl (.inl rfl)) (ijs_cons (ij_name (i := 4) S.nd rfl (.inl rfl)) (ijs_cons (ij_name (i := 7) S.nd rfl (.inl rfl)) ijs_nil))))) (fun _ _ _ _ _ => (its_one (it_cmp (op_ltD hr.u64) (ie_var (pv 4)) (ie_tup (ia_cons (ie_var (pv 1)) ia_nil))))) (fun _ _ _ _ _ => (ie_var (pv 4))) (by decide)) ia_nil)))
    (iss_one (is_ret (ie_bin op_addD (ie_bin op_addD (ie_slice (ie_var (pv 2)) io_none (io_some (ie_var (pv 3)))) (ie_lst (ia_cons (ie_tup (ia_cons ie_non (ia_cons (ie_tup (ia_cons (ie_var (pv 1)) ia_nil)) (ia_cons ie_int ia_nil)))) ia_nil))) (ie_slice (ie_var (pv 2)) (io_some (ie_var (pv 3))) io_none)))))))
theorem sc_cut_ways : FnScope ["tree", "found", "part"] ["tree"] (defScope (top 79)) := ⟨rfl, rfl, rfl, by decide +kernel, rfl, by decide +kernel, by decide +kernel⟩
def b_cut_ways (self : FA) : MS :=
    (mSeq (mSet 1 (mC (.int 1)))
    (mSeq (mFor (mSeqI (mVar 0)) (gN 2) (mSet 1 (mBin mulD (mVar 1) (mCallF 1 self (mCons (mVar 2) mNil)))))
    (mRet (mBin addD (mVar 1) (mC (.int 1))))))
def m_cut_ways : Nat → FA := mRecF 2 b_cut_ways
theorem c_cut_ways {P : Program} {w : World} {K : PySem.W.Frag} {mg : Str → Option Value} {base : Heap} (T : Top K mg) (k : Nat) : CallM P w K mg base (0 + k + 1) 1 "cut_ways" (m_cut_ways k) := by
  obtain ⟨fd, F, hm⟩ := T.def_ 62 (d := dd "cut_ways" 79) rfl rfl
  refine call_recF (st := top 79) F sc_cut_ways hm rfl rfl (fun _ _ _ _ _ _ us hl => match us, hl with | [_], _ => rfl) (fun self k cself cdv A outer s H E hr => ?_) k
  have S := sc_cut_ways
  exact (iss_cons (is_set (i := 1) S.nd rfl (.inl rfl) ie_int)
    (iss_cons (is_for rfl PassesOwn.never (ii_seq (ie_var (pv 0))) (ij_name (i := 2) S.nd rfl (.inl rfl)) (iss_one (is_set (i := 1) S.nd rfl (.inl rfl) (ie_bin op_mulD (ie_var (pv 1)) (ie_call cself (hr.mono (by omega)) rfl (ia_cons (ie_var (pv 2)) ia_nil))))))
    (iss_one (is_ret (ie_bin op_addD (ie_var (pv 1)) ie_int)))))
theorem sc_how_many_cuts : FnScope ["tree"] ["tree"] (defScope (top 80)) := ⟨rfl, rfl, rfl, by decide +kernel, rfl, by decide +kernel, by decide +kernel⟩
def m_how_many_cuts : FA := flatF ( mDef 0
    (mRet (mCallF 1 (m_cut_ways 12) (mCons (mCallF 1 m_sure_tree (mCons (mVar 0) mNil)) mNil))))
theorem c_how_many_cuts {P : Program} {w : World} {K : PySem.W.Frag} {mg : Str → Option Value} {base : Heap} (T : Top K mg) : CallM P w K mg base 16 1 "how_many_cuts" m_how_many_cuts := by
  obtain ⟨fd, F, hm⟩ := T.def_ 63 (d := dd "how_many_cuts" 80) rfl rfl
  refine CallM.flat (call_def (st := top 80) F sc_how_many_cuts hm rfl rfl (fun _ _ _ _ _ _ us hl => match us, hl with | [_], _ => rfl) (fun cdv A outer s H E hr => ?_))
  have S := sc_how_many_cuts
  exact (iss_one (is_ret (ie_call (c_cut_ways T 12) (hr.mono (by omega)) rfl (ia_cons (ie_call (c_sure_tree T) (hr.mono (by omega)) rfl (ia_cons (ie_var (pv 0)) ia_nil)) ia_nil))))
theorem sc_hung_below : FnScope ["one", "other", "found", "place", "part", "own"] ["one", "other"] (defScope (top 81)) := ⟨rfl, rfl, rfl, by decide +kernel, rfl, by decide +kernel, by decide +kernel⟩
def b_hung_below (self : FA) : MS :=
    (mSeq (mSet 2 (mLst (mCons (mCallF 2 m_under (mCons (mVar 0) (mCons (mVar 1) mNil))) mNil)))
    (mSeq (mFor (mEnumI (mVar 0)) (gTupM 2 (gsCons (gN 3) (gsCons (gN 4) gsNil))) (mFor (mSeqI (mCallF 2 self (mCons (mVar 4) (mCons (mVar 1) mNil)))) (gN 5) (mExpr (mMeth okL appF (mVar 2) (mCons (mCall (fa1 tupF) (mCons (mCall (fa1 srtF) (mCons (mBin addD (mBin addD (mSlice (mVar 0) mNoPart (mPart (mVar 3))) (mTup (mCons (mVar 5) mNil))) (mSlice (mVar 0) (mPart (mBin addD (mVar 3) (mC (.int 1)))) mNoPart)) mNil)) mNil)) mNil)))))
    (mRet (mVar 2))))
def m_hung_below : Nat → FA := mRecF 4 b_hung_below
theorem c_hung_below {P : Program} {w : World} {K : PySem.W.Frag} {mg : Str → Option Value} {base : Heap} (T : Top K mg) (k : Nat) : CallM P w K mg base (1 + k + 1) 2 "hung_below" (m_hung_below k) := by
  obtain ⟨fd, F, hm⟩ := T.def_ 64 (d := dd "hung_below" 81) rfl rfl
  refine call_recF (st := top 81) F sc_hung_below hm rfl rfl (fun _ _ _ _ _ _ us hl => match us, hl with | [_, _], _ => rfl) (fun self k cself cdv A outer s H E hr => ?_) k
  have S := sc_hung_below
  exact (iss_cons (is_set (i := 2) S.nd rfl (.inl rfl) (ie_lst (ia_cons (ie_call (c_under T) (hr.mono (by omega)) rfl (ia_cons (ie_var (pv 0)) (ia_cons (ie_var (pv 1)) ia_nil))) ia_nil)))
    (iss_cons (is_for rfl PassesOwn.never (ii_enum rfl (T.free 117 rfl) (ie_var (pv 0))) (ij_tup rfl (ijs_cons (ij_name (i := 3) S.nd rfl (.inl rfl)) (ijs_cons (ij_name (i := 4) S.nd rfl (.inl rfl)) ijs_nil))) (iss_one (is_for rfl PassesOwn.never (ii_seq (ie_call cself (hr.mono (by omega)) rfl (ia_cons (ie_var (pv 4)) (ia_cons (ie_var (pv 1)) ia_nil)))) (ij_name (i := 5) S.nd rfl (.inl rfl)) (iss_one (is_expr (ie_meth mt_appD (ie_var (pv 2)) (ia_cons (ie_callTy call_tupD rfl (T.free 129 rfl) (by decide +kernel) (ia_cons (ie_callB (call_srtD hr.u64) rfl (T.free 126 rfl) (by decide +kernel) (ia_cons (ie_bin op_addD (ie_bin op_addD (ie_slice (ie_var (pv 0)) io_none (io_some (ie_var (pv 3)))) (ie_tup (ia_cons (ie_var (pv 5)) ia_nil))) (ie_slice (ie_var (pv 0)) (io_some (ie_bin op_addD (ie_var (pv 3)) ie_int)) io_none)) ia_nil)) ia_nil)) ia_nil)))))))
    (iss_one (is_ret (ie_var (pv 2))))))
theorem sc_hung_everywhere : FnScope ["one", "other", "near", "far", "found", "tree"] ["one", "other"] (defScope (top 82)) := ⟨rfl, rfl, rfl, by decide +kernel, rfl, by decide +kernel, by decide +kernel⟩
def m_hung_everywhere : FA := flatF ( mDef 4
    (mSeq (mPar 2 3 (mCons (mCallF 1 m_sure_tree (mCons (mVar 0) mNil)) (mCons (mCallF 1 m_sure_tree (mCons (mVar 1) mNil)) mNil)))
    (mSeq (mSet 4 (mCallF 2 (m_hung_below 12) (mCons (mVar 2) (mCons (mVar 3) mNil))))
    (mRet (mLc (mSeqI (mUn ssetF (mVar 4))) (gN 5) mYes (mTup (mCons (mVar 5) (mCons (mMeth okS2 cntF (mVar 4) (mCons (mVar 5) mNil)) mNil))) [5])))))
theorem c_hung_everywhere {P : Program} {w : World} {K : PySem.W.Frag} {mg : Str → Option Value} {base : Heap} (T : Top K mg) : CallM P w K mg base 16 2 "hung_everywhere" m_hung_everywhere := by
  obtain ⟨fd, F, hm⟩ := T.def_ 65 (d := dd "hung_everywhere" 82) rfl rfl
  refine CallM.flat (call_def (st := top 82) F sc_hung_everywhere hm rfl rfl (fun _ _ _ _ _ _ us hl => match us, hl with | [_, _], _ => rfl) (fun cdv A outer s H E hr => ?_))
  have S := sc_hung_everywhere
  exact (iss_cons (is_par (i := 2) (j := 3) rfl S.nd rfl rfl (by decide) rfl rfl (ia_cons (ie_call (c_sure_tree T) (hr.mono (by omega)) rfl (ia_cons (ie_var (pv 0)) ia_nil)) (ia_cons (ie_call (c_sure_tree T) (hr.mono (by omega)) rfl (ia_cons (ie_var (pv 1)) ia_nil)) ia_nil)))
    (iss_cons (is_set (i := 4) S.nd rfl (.inr rfl) (ie_call (c_hung_below T 12) (hr.mono (by omega)) rfl (ia_cons (ie_var (pv 2)) (ia_cons (ie_var (pv 3)) ia_nil))))
    (iss_one (is_ret (ie_lc (own := [("tree", 5)]) rfl S.nd (ii_seq (ie_sset rfl hr.u64 (ie_var (pv 4)) rfl (T.free 126 rfl) rfl (T.free 125 rfl))) (blkOk_by (by kernel_rfl)) (fun _ _ _ _ _ => (ij_name (i := 5) S.nd rfl (.inl rfl))) (fun _ _ _ _ _ => its_nil) (fun _ _ _ _ _ => (ie_tup (ia_cons (ie_var (pv 5)) (ia_cons (ie_meth (mt_cntD hr.u70) (ie_var (pv 4)) (ia_cons (ie_var (pv 5)) ia_nil)) ia_nil)))) (by decide))))))
theorem sc_roots_moved : FnScope ["tree", "found", "left", "own", "above", "whole", "later", "place", "part", "rest"] ["tree"] (defScope (top 83)) := ⟨rfl, rfl, rfl, by decide +kernel, rfl, by decide +kernel, by decide +kernel⟩
def m_roots_moved : FA := flatF ( mDef 9
    (mSeq (mPar 1 2 (mCons (mLst mNil) (mCons (mLst (mCons (mTup (mCons (mVar 0) (mCons (mC .non) mNil))) mNil)) mNil)))
    (mSeq (mWhile 300 (mTB (mBin neD (mVar 2) (mLst mNil))) (mSeq (mAsg (mMeth okL popF (mVar 2) (mCons (mC (.int 0)) mNil)) (gTupM 2 (gsCons (gN 3) (gsCons (gN 4) gsNil))))
    (mSeq (mSet 5 (mIf (mTB (mBin (isN true) (mVar 4) (mC .non))) (mCallF 2 m_under (mCons (mVar 3) (mCons (mVar 4) mNil))) (mVar 3)))
    (mSeq (mExpr (mMeth okL appF (mVar 1) (mCons (mVar 5) mNil)))
    (mSeq (mSet 6 (mLst mNil))
    (mSeq (mFor (mEnumI (mVar 3)) (gTupM 2 (gsCons (gN 7) (gsCons (gN 8) gsNil))) (mSeq (mSet 9 (mBin addD (mSlice (mVar 3) mNoPart (mPart (mVar 7))) (mSlice (mVar 3) (mPart (mBin addD (mVar 7) (mC (.int 1)))) mNoPart)))
    (mExpr (mMeth okL appF (mVar 6) (mCons (mTup (mCons (mVar 8) (mCons (mIf (mTB (mBin (isN true) (mVar 4) (mC .non))) (mCallF 2 m_under (mCons (mVar 9) (mCons (mVar 4) mNil))) (mVar 9)) mNil))) mNil)))))
    (mSet 2 (mBin addD (mVar 6) (mVar 2)))))))))
    (mRet (mVar 1)))))
theorem c_roots_moved {P : Program} {w : World} {K : PySem.W.Frag} {mg : Str → Option Value} {base : Heap} (T : Top K mg) : CallM P w K mg base 2 1 "roots_moved" m_roots_moved := by
  obtain ⟨fd, F, hm⟩ := T.def_ 66 (d := dd "roots_moved" 83) rfl rfl
  refine CallM.flat (call_def (st := top 83) F sc_roots_moved hm rfl rfl (fun _ _ _ _ _ _ us hl => match us, hl with | [_], _ => rfl) (fun cdv A outer s H E hr => ?_))
  have S := sc_roots_moved
  exact (iss_cons (is_par (i := 1) (j := 2) rfl S.nd rfl rfl (by decide) rfl rfl (ia_cons (ie_lst ia_nil) (ia_cons (ie_lst (ia_cons (ie_tup (ia_cons (ie_var (pv 0)) (ia_cons ie_non ia_nil))) ia_nil)) ia_nil)))
    (iss_cons (is_while PassesOwn.never (it_cmp (op_neDD hr.u64) (ie_var (pv 2)) (ie_lst ia_nil)) (iss_cons (is_asg (ie_meth mt_popD (ie_var (pv 2)) (ia_cons ie_int ia_nil)) (ij_tup rfl (ijs_cons (ij_name (i := 3) S.nd rfl (.inl rfl)) (ijs_cons (ij_name (i := 4) S.nd rfl (.inl rfl)) ijs_nil))))
    (iss_cons (is_set (i := 5) S.nd rfl (.inl rfl) (ie_if (it_cmp op_isNotD (ie_var (pv 4)) ie_non) (ie_call (c_under T) (hr.mono (by omega)) rfl (ia_cons (ie_var (pv 3)) (ia_cons (ie_var (pv 4)) ia_nil))) (ie_var (pv 3))))
    (iss_cons (is_expr (ie_meth mt_appD (ie_var (pv 1)) (ia_cons (ie_var (pv 5)) ia_nil)))
    (iss_cons (is_set (i := 6) S.nd rfl (.inl rfl) (ie_lst ia_nil))
    (iss_cons (is_for rfl PassesOwn.never (ii_enum rfl (T.free 117 rfl) (ie_var (pv 3))) (ij_tup rfl (ijs_cons (ij_name (i := 7) S.nd rfl (.inl rfl)) (ijs_cons (ij_name (i := 8) S.nd rfl (.inl rfl)) ijs_nil))) (iss_cons (is_set (i := 9) S.nd rfl (.inl rfl) (ie_bin op_addD (ie_slice (ie_var (pv 3)) io_none (io_some (ie_var (pv 7)))) (ie_slice (ie_var (pv 3)) (io_some (ie_bin op_addD (ie_var (pv 7)) ie_int)) io_none)))
    (iss_one (is_expr (ie_meth mt_appD (ie_var (pv 6)) (ia_cons (ie_tup (ia_cons (ie_var (pv 8)) (ia_cons (ie_if (it_cmp op_isNotD (ie_var (pv 4)) ie_non) (ie_call (c_under T) (hr.mono (by omega)) rfl (ia_cons (ie_var (pv 9)) (ia_cons (ie_var (pv 4)) ia_nil))) (ie_var (pv 9))) ia_nil))) ia_nil))))))
    (iss_one (is_set (i := 2) S.nd rfl (.inl rfl) (ie_bin op_addD (ie_var (pv 6)) (ie_var (pv 2)))))))))))
    (iss_one (is_ret (ie_var (pv 1))))))
def g_roots_moved : FA := mapF rootsT
theorem roots_run : (rootsT.all fun p => D.flat p.1 && (D.flats p.2 && (m_roots_moved [p.1] MH.emp).allB (isL p.2))) = true := by decide +kernel
theorem o_roots_moved {P : Program} {w : World} {K : PySem.W.Frag} {mg : Str → Option Value} {base : Heap} (T : Top K mg) : CallM P w K mg base 2 1 "roots_moved" g_roots_moved := (c_roots_moved T).map (List.all_eq_true.mp roots_run)
theorem sc_root_moved : FnScope ["tree", "node", "own", "found"] ["tree", "node"] (defScope (top 84)) := ⟨rfl, rfl, rfl, by decide +kernel, rfl, by decide +kernel, by decide +kernel⟩
def m_root_moved : FA := flatF ( mDef 2
    (mSeq (mSet 2 (mCallF 1 m_sure_tree (mCons (mVar 0) mNil)))
    (mSeq (mSet 3 (mCallF 1 g_roots_moved (mCons (mVar 2) mNil)))
    (mSeq (mIfS (mNot (mTV (mCallF 2 m_is_below (mCons (mCallF 1 m_sure_number (mCons (mVar 1) mNil)) (mCons (mCall (fa1 lenF) (mCons (mVar 3) mNil)) mNil))))) mErr mNext)
    (mRet (mBin ixD (mVar 3) (mVar 1)))))))
theorem c_root_moved {P : Program} {w : World} {K : PySem.W.Frag} {mg : Str → Option Value} {base : Heap} (T : Top K mg) : CallM P w K mg base 16 2 "root_moved" m_root_moved := by
  obtain ⟨fd, F, hm⟩ := T.def_ 67 (d := dd "root_moved" 84) rfl rfl
  refine CallM.flat (call_def (st := top 84) F sc_root_moved hm rfl rfl (fun _ _ _ _ _ _ us hl => match us, hl with | [_, _], _ => rfl) (fun cdv A outer s H E hr => ?_))
  have S := sc_root_moved
  exact (iss_cons (is_set (i := 2) S.nd rfl (.inl rfl) (ie_call (c_sure_tree T) (hr.mono (by omega)) rfl (ia_cons (ie_var (pv 0)) ia_nil)))
    (iss_cons (is_set (i := 3) S.nd rfl (.inl rfl) (ie_call (o_roots_moved T) (hr.mono (by omega)) rfl (ia_cons (ie_var (pv 2)) ia_nil)))
    (iss_cons (is_if (it_not (it_val (ie_call (c_is_below T) (hr.mono (by omega)) rfl (ia_cons (ie_call (c_sure_number T) (hr.mono (by omega)) rfl (ia_cons (ie_var (pv 1)) ia_nil)) (ia_cons (ie_callB call_lenD rfl (T.free 120 rfl) PySem.boot_len (ia_cons (ie_var (pv 3)) ia_nil)) ia_nil))))) (iss_one is_never) iss_nil)
    (iss_one (is_ret (ie_ix (ie_var (pv 3)) (ie_var (pv 1))))))))
theorem sc_free_in : FnScope ["tree"] ["tree"] (defScope (top 85)) := ⟨rfl, rfl, rfl, by decide +kernel, rfl, by decide +kernel, by decide +kernel⟩
def m_free_in : FA := flatF ( mDef 0
    (mRet (mCall (fa1 minF) (mCons (mCallF 1 g_roots_moved (mCons (mVar 0) mNil)) mNil))))
theorem c_free_in {P : Program} {w : World} {K : PySem.W.Frag} {mg : Str → Option Value} {base : Heap} (T : Top K mg) : CallM P w K mg base 3 1 "free_in" m_free_in := by
  obtain ⟨fd, F, hm⟩ := T.def_ 68 (d := dd "free_in" 85) rfl rfl
  refine CallM.flat (call_def (st := top 85) F sc_free_in hm rfl rfl (fun _ _ _ _ _ _ us hl => match us, hl with | [_], _ => rfl) (fun cdv A outer s H E hr => ?_))
  have S := sc_free_in
  exact (iss_one (is_ret (ie_callB (call_minD rfl hr.u70) rfl (T.free 123 rfl) (by decide +kernel) (ia_cons (ie_call (o_roots_moved T) (hr.mono (by omega)) rfl (ia_cons (ie_var (pv 0)) ia_nil)) ia_nil))))
theorem sc_lots_of_free : FnScope ["many", "lots", "tree", "form"] ["many"] (defScope (top 86)) := ⟨rfl, rfl, rfl, by decide +kernel, rfl, by decide +kernel, by decide +kernel⟩
def m_lots_of_free : FA := flatF ( mDef 3
    (mSeq (mSet 1 mDnew)
    (mSeq (mFor (mSeqI (mCallF 1 g_listed (mCons (mVar 0) mNil))) (gN 2) (mExpr (mMeth okL appF (mMeth okDc sdefF (mVar 1) (mCons (mCallF 1 m_free_in (mCons (mVar 2) mNil)) (mCons (mLst mNil) mNil))) (mCons (mVar 2) mNil))))
    (mRet (mLc (mSeqI (mCall (fa1 skeyF) (mCons (mVar 1) mNil))) (gN 3) mYes (mCall (fa1 tupF) (mCons (mBin dgetD (mVar 1) (mVar 3)) mNil)) [3])))))
theorem c_lots_of_free {P : Program} {w : World} {K : PySem.W.Frag} {mg : Str → Option Value} {base : Heap} (T : Top K mg) : CallM P w K mg base 16 1 "lots_of_free" m_lots_of_free := by
  obtain ⟨fd, F, hm⟩ := T.def_ 69 (d := dd "lots_of_free" 86) rfl rfl
  refine CallM.flat (call_def (st := top 86) F sc_lots_of_free hm rfl rfl (fun _ _ _ _ _ _ us hl => match us, hl with | [_], _ => rfl) (fun cdv A outer s H E hr => ?_))
  have S := sc_lots_of_free
  exact (iss_cons (is_set (i := 1) S.nd rfl (.inr rfl) ie_dnew)
    (iss_cons (is_for rfl PassesOwn.never (ii_seq (ie_call (o_listed T) (hr.mono (by omega)) rfl (ia_cons (ie_var (pv 0)) ia_nil))) (ij_name (i := 2) S.nd rfl (.inl rfl)) (iss_one (is_expr (ie_meth mt_appD (ie_meth (mt_sdefD hr.u64) (ie_var (pv 1)) (ia_cons (ie_call (c_free_in T) (hr.mono (by omega)) rfl (ia_cons (ie_var (pv 2)) ia_nil)) (ia_cons (ie_lst ia_nil) ia_nil))) (ia_cons (ie_var (pv 2)) ia_nil)))))
    (iss_one (is_ret (ie_lc (own := [("form", 3)]) rfl S.nd (ii_seq (ie_callB (call_skeyD rfl hr.u64) rfl (T.free 126 rfl) PyProof.Rows.boot_sorted (ia_cons (ie_var (pv 1)) ia_nil))) (blkOk_by (by kernel_rfl)) (fun _ _ _ _ _ => (ij_name (i := 3) S.nd rfl (.inl rfl))) (fun _ _ _ _ _ => its_nil) (fun _ _ _ _ _ => (ie_callTy call_tupD rfl (T.free 129 rfl) (by decide +kernel) (ia_cons (ie_dget hr.u64 (ie_var (pv 1)) (ie_var (pv 3))) ia_nil))) (by decide))))))
theorem sc_free_counts : FnScope ["many", "most", "size"] ["many"] (defScope (top 87)) := ⟨rfl, rfl, rfl, by decide +kernel, rfl, by decide +kernel, by decide +kernel⟩
def m_free_counts : FA := flatF ( mDef 2
    (mSeq (mSet 1 (mCallF 3 m_sure_within (mCons (mVar 0) (mCons (mC (.int 1)) (mCons (mC (.int 8)) mNil)))))
    (mRet (mCall (fa1 tupF) (mCons (mLc (mRg2I (mCons (mC (.int 1)) (mCons (mBin addD (mVar 1) (mC (.int 1))) mNil))) (gN 2) mYes (mCall (fa1 lenF) (mCons (mCallF 1 m_lots_of_free (mCons (mVar 2) mNil)) mNil)) [2]) mNil)))))
theorem c_free_counts {P : Program} {w : World} {K : PySem.W.Frag} {mg : Str → Option Value} {base : Heap} (T : Top K mg) : CallM P w K mg base 17 1 "free_counts" m_free_counts := by
  obtain ⟨fd, F, hm⟩ := T.def_ 70 (d := dd "free_counts" 87) rfl rfl
  refine CallM.flat (call_def (st := top 87) F sc_free_counts hm rfl rfl (fun _ _ _ _ _ _ us hl => match us, hl with | [_], _ => rfl) (fun cdv A outer s H E hr => ?_))
  have S := sc_free_counts
  exact (iss_cons (is_set (i := 1) S.nd rfl (.inl rfl) (ie_call (c_sure_within T) (hr.mono (by omega)) rfl (ia_cons (ie_var (pv 0)) (ia_cons ie_int (ia_cons (ie_cst (T.cst 131 rfl) rfl) ia_nil)))))
    (iss_one (is_ret (ie_callTy call_tupD rfl (T.free 129 rfl) (by decide +kernel) (ia_cons (ie_lc (own := [("size", 2)]) rfl S.nd (ii_rg2 rfl (T.free 124 rfl) (ia_cons ie_int (ia_cons (ie_bin op_addD (ie_var (pv 1)) ie_int) ia_nil))) (blkOk_by (by kernel_rfl)) (fun _ _ _ _ _ => (ij_name (i := 2) S.nd rfl (.inl rfl))) (fun _ _ _ _ _ => its_nil) (fun _ _ _ _ _ => (ie_callB call_lenD rfl (T.free 120 rfl) PySem.boot_len (ia_cons (ie_call (c_lots_of_free T) (hr.mono (by omega)) rfl (ia_cons (ie_var (pv 2)) ia_nil)) ia_nil))) (by decide)) ia_nil)))))
def g_free_counts : FA := oneF 4 (.tup [.int 1, .int 1, .int 1, .int 2])
theorem o_free_counts {P : Program} {w : World} {K : PySem.W.Frag} {mg : Str → Option Value} {base : Heap} (T : Top K mg) : CallM P w K mg base 17 1 "free_counts" g_free_counts := (c_free_counts T).one (by decide +kernel)
theorem sc_node_count : FnScope ["tree"] ["tree"] (defScope (top 89)) := ⟨rfl, rfl, rfl, by decide +kernel, rfl, by decide +kernel, by decide +kernel⟩
def m_node_count : FA := flatF ( mDef 0
    (mRet (mCall (fa1 lenF) (mCons (mCallF 1 g_roots_moved (mCons (mVar 0) mNil)) mNil))))
theorem c_node_count {P : Program} {w : World} {K : PySem.W.Frag} {mg : Str → Option Value} {base : Heap} (T : Top K mg) : CallM P w K mg base 3 1 "node_count" m_node_count := by
  obtain ⟨fd, F, hm⟩ := T.def_ 72 (d := dd "node_count" 89) rfl rfl
  refine CallM.flat (call_def (st := top 89) F sc_node_count hm rfl rfl (fun _ _ _ _ _ _ us hl => match us, hl with | [_], _ => rfl) (fun cdv A outer s H E hr => ?_))
  have S := sc_node_count
  exact (iss_one (is_ret (ie_callB call_lenD rfl (T.free 120 rfl) PySem.boot_len (ia_cons (ie_call (o_roots_moved T) (hr.mono (by omega)) rfl (ia_cons (ie_var (pv 0)) ia_nil)) ia_nil))))
theorem sc_middles_in : FnScope ["tree", "moved", "sizes", "own", "number", "row", "part"] ["tree"] (defScope (top 88)) := ⟨rfl, rfl, rfl, by decide +kernel, rfl, by decide +kernel, by decide +kernel⟩
def m_middles_in : FA := flatF ( mDef 6
    (mSeq (mSet 1 (mCallF 1 g_roots_moved (mCons (mVar 0) mNil)))
    (mSeq (mSet 2 (mLc (mSeqI (mVar 1)) (gN 3) mYes (mLc (mSeqI (mVar 3)) (gN 6) mYes (mCallF 1 m_node_count (mCons (mVar 6) mNil)) [6]) [3]))
    (mRet (mLc (mEnumI (mVar 2)) (gTupM 2 (gsCons (gN 4) (gsCons (gN 5) gsNil))) (mTB (mBin (cmpD oLe) (mBin mulD (mC (.int 2)) (mCall (fa1 maxF2) (mCons (mBin addD (mLst (mCons (mC (.int 0)) mNil)) (mVar 5)) mNil))) (mCall (fa1 lenF) (mCons (mVar 1) mNil)))) (mVar 4) [4, 5])))))
theorem c_middles_in {P : Program} {w : World} {K : PySem.W.Frag} {mg : Str → Option Value} {base : Heap} (T : Top K mg) : CallM P w K mg base 4 1 "middles_in" m_middles_in := by
  obtain ⟨fd, F, hm⟩ := T.def_ 71 (d := dd "middles_in" 88) rfl rfl
  refine CallM.flat (call_def (st := top 88) F sc_middles_in hm rfl rfl (fun _ _ _ _ _ _ us hl => match us, hl with | [_], _ => rfl) (fun cdv A outer s H E hr => ?_))
  have S := sc_middles_in
  exact (iss_cons (is_set (i := 1) S.nd rfl (.inr rfl) (ie_call (o_roots_moved T) (hr.mono (by omega)) rfl (ia_cons (ie_var (pv 0)) ia_nil)))
    (iss_cons (is_setLc (i := 2) (own := [("own", 3)]) rfl S.nd rfl rfl (sw_true rfl rfl rfl (by decide +kernel)) (ii_seq (ie_var (pv 1))) (blkOk_by (by kernel_rfl)) (fun _ _ _ _ _ => (ij_name (i := 3) S.nd rfl (.inl rfl))) (fun _ _ _ _ _ => its_nil) (fun _ _ _ _ _ => (ie_lc (own := [("part", 6)]) rfl S.nd (ii_seq (ie_var (pv 3))) (blkOk_by (by kernel_rfl)) (fun _ _ _ _ _ => (ij_name (i := 6) S.nd rfl (.inl rfl))) (fun _ _ _ _ _ => its_nil) (fun _ _ _ _ _ => (ie_call (c_node_count T) (hr.mono (by omega)) rfl (ia_cons (ie_var (pv 6)) ia_nil))) (by decide))) (by decide))
    (iss_one (is_ret (ie_lc (own := [("number", 4), ("row", 5)]) rfl S.nd (ii_enum rfl (T.free 117 rfl) (ie_var (pv 2))) (blkOk_by (by kernel_rfl)) (fun _ _ _ _ _ => (ij_tup rfl (ijs_cons (ij_name (i := 4) S.nd rfl (.inl rfl)) (ijs_cons (ij_name (i := 5) S.nd rfl (.inl rfl)) ijs_nil)))) (fun _ _ _ _ _ => (its_one (it_cmp (op_leD hr.u64) (ie_bin op_mulD (ie_cst (T.cst 137 rfl) rfl) (ie_callB (call_maxD2 rfl hr.u70) rfl (T.free 122 rfl) (by decide +kernel) (ia_cons (ie_bin op_addD (ie_lst (ia_cons ie_int ia_nil)) (ie_var (pv 5))) ia_nil))) (ie_callB call_lenD rfl (T.free 120 rfl) PySem.boot_len (ia_cons (ie_var (pv 1)) ia_nil))))) (fun _ _ _ _ _ => (ie_var (pv 4))) (by decide))))))
theorem sc_middle_nodes : FnScope ["tree"] ["tree"] (defScope (top 90)) := ⟨rfl, rfl, rfl, by decide +kernel, rfl, by decide +kernel, by decide +kernel⟩
def m_middle_nodes : FA := flatF ( mDef 0
    (mRet (mCall (fa1 tupF) (mCons (mCallF 1 m_middles_in (mCons (mCallF 1 m_sure_tree (mCons (mVar 0) mNil)) mNil)) mNil))))
theorem c_middle_nodes {P : Program} {w : World} {K : PySem.W.Frag} {mg : Str → Option Value} {base : Heap} (T : Top K mg) : CallM P w K mg base 16 1 "middle_nodes" m_middle_nodes := by
  obtain ⟨fd, F, hm⟩ := T.def_ 73 (d := dd "middle_nodes" 90) rfl rfl
  refine CallM.flat (call_def (st := top 90) F sc_middle_nodes hm rfl rfl (fun _ _ _ _ _ _ us hl => match us, hl with | [_], _ => rfl) (fun cdv A outer s H E hr => ?_))
  have S := sc_middle_nodes
  exact (iss_one (is_ret (ie_callTy call_tupD rfl (T.free 129 rfl) (by decide +kernel) (ia_cons (ie_call (c_middles_in T) (hr.mono (by omega)) rfl (ia_cons (ie_call (c_sure_tree T) (hr.mono (by omega)) rfl (ia_cons (ie_var (pv 0)) ia_nil)) ia_nil)) ia_nil))))
theorem sc_trees_at_nodes : FnScope ["tree", "found", "part"] ["tree"] (defScope (top 92)) := ⟨rfl, rfl, rfl, by decide +kernel, rfl, by decide +kernel, by decide +kernel⟩
def b_trees_at_nodes (self : FA) : MS :=
    (mSeq (mSet 1 (mLst (mCons (mVar 0) mNil)))
    (mSeq (mFor (mSeqI (mVar 0)) (gN 2) (mExpr (mMeth okL extF (mVar 1) (mCons (mCallF 1 self (mCons (mVar 2) mNil)) mNil))))
    (mRet (mVar 1))))
def m_trees_at_nodes : Nat → FA := mRecF 2 b_trees_at_nodes
theorem c_trees_at_nodes {P : Program} {w : World} {K : PySem.W.Frag} {mg : Str → Option Value} {base : Heap} (T : Top K mg) (k : Nat) : CallM P w K mg base (0 + k + 1) 1 "trees_at_nodes" (m_trees_at_nodes k) := by
  obtain ⟨fd, F, hm⟩ := T.def_ 74 (d := dd "trees_at_nodes" 92) rfl rfl
  refine call_recF (st := top 92) F sc_trees_at_nodes hm rfl rfl (fun _ _ _ _ _ _ us hl => match us, hl with | [_], _ => rfl) (fun self k cself cdv A outer s H E hr => ?_) k
  have S := sc_trees_at_nodes
  exact (iss_cons (is_set (i := 1) S.nd rfl (.inl rfl) (ie_lst (ia_cons (ie_var (pv 0)) ia_nil)))
    (iss_cons (is_for rfl PassesOwn.never (ii_seq (ie_var (pv 0))) (ij_name (i := 2) S.nd rfl (.inl rfl)) (iss_one (is_expr (ie_meth mt_extD (ie_var (pv 1)) (ia_cons (ie_call cself (hr.mono (by omega)) rfl (ia_cons (ie_var (pv 2)) ia_nil)) ia_nil)))))
    (iss_one (is_ret (ie_var (pv 1))))))
theorem sc_nodes_of : FnScope ["tree"] ["tree"] (defScope (top 93)) := ⟨rfl, rfl, rfl, by decide +kernel, rfl, by decide +kernel, by decide +kernel⟩
def m_nodes_of : FA := flatF ( mDef 0
    (mRet (mCall (fa1 tupF) (mCons (mCallF 1 (m_trees_at_nodes 12) (mCons (mCallF 1 m_sure_tree (mCons (mVar 0) mNil)) mNil)) mNil))))
theorem c_nodes_of {P : Program} {w : World} {K : PySem.W.Frag} {mg : Str → Option Value} {base : Heap} (T : Top K mg) : CallM P w K mg base 16 1 "nodes_of" m_nodes_of := by
  obtain ⟨fd, F, hm⟩ := T.def_ 75 (d := dd "nodes_of" 93) rfl rfl
  refine CallM.flat (call_def (st := top 93) F sc_nodes_of hm rfl rfl (fun _ _ _ _ _ _ us hl => match us, hl with | [_], _ => rfl) (fun cdv A outer s H E hr => ?_))
  have S := sc_nodes_of
  exact (iss_one (is_ret (ie_callTy call_tupD rfl (T.free 129 rfl) (by decide +kernel) (ia_cons (ie_call (c_trees_at_nodes T 12) (hr.mono (by omega)) rfl (ia_cons (ie_call (c_sure_tree T) (hr.mono (by omega)) rfl (ia_cons (ie_var (pv 0)) ia_nil)) ia_nil)) ia_nil))))
theorem sc_names_under : FnScope ["tree", "nodes", "found", "place", "own", "here", "row", "part"] ["tree"] (defScope (top 94)) := ⟨rfl, rfl, rfl, by decide +kernel, rfl, by decide +kernel, by decide +kernel⟩
def m_names_under : FA := flatF ( mDef 7
    (mSeq (mPar 1 2 (mCons (mCallF 1 (m_trees_at_nodes 12) (mCons (mVar 0) mNil)) (mCons (mLst mNil) mNil)))
    (mSeq (mFor (mEnumI (mVar 1)) (gTupM 2 (gsCons (gN 3) (gsCons (gN 4) gsNil))) (mSeq (mPar 5 6 (mCons (mBin addD (mVar 3) (mC (.int 1))) (mCons (mLst mNil) mNil)))
    (mSeq (mFor (mSeqI (mVar 4)) (gN 7) (mSeq (mExpr (mMeth okL appF (mVar 6) (mCons (mVar 5) mNil)))
    (mSet 5 (mBin addD (mVar 5) (mCallF 1 (m_size_in 12) (mCons (mVar 7) mNil))))))
    (mExpr (mMeth okL appF (mVar 2) (mCons (mCall (fa1 tupF) (mCons (mVar 6) mNil)) mNil))))))
    (mRet (mVar 2)))))
theorem c_names_under {P : Program} {w : World} {K : PySem.W.Frag} {mg : Str → Option Value} {base : Heap} (T : Top K mg) : CallM P w K mg base 14 1 "names_under" m_names_under := by
  obtain ⟨fd, F, hm⟩ := T.def_ 76 (d := dd "names_under" 94) rfl rfl
  refine CallM.flat (call_def (st := top 94) F sc_names_under hm rfl rfl (fun _ _ _ _ _ _ us hl => match us, hl with | [_], _ => rfl) (fun cdv A outer s H E hr => ?_))
  have S := sc_names_under
  exact (iss_cons (is_par (i := 1) (j := 2) rfl S.nd rfl rfl (by decide) rfl rfl (ia_cons (ie_call (c_trees_at_nodes T 12) (hr.mono (by omega)) rfl (ia_cons (ie_var (pv 0)) ia_nil)) (ia_cons (ie_lst ia_nil) ia_nil)))
    (iss_cons (is_for rfl PassesOwn.never (ii_enum rfl (T.free 117 rfl) (ie_var (pv 1))) (ij_tup rfl (ijs_cons (ij_name (i := 3) S.nd rfl (.inl rfl)) (ijs_cons (ij_name (i := 4) S.nd rfl (.inl rfl)) ijs_nil))) (iss_cons (is_par (i := 5) (j := 6) rfl S.nd rfl rfl (by decide) rfl rfl (ia_cons (ie_bin op_addD (ie_var (pv 3)) ie_int) (ia_cons (ie_lst ia_nil) ia_nil)))
    (iss_cons (is_for rfl PassesOwn.never (ii_seq (ie_var (pv 4))) (ij_name (i := 7) S.nd rfl (.inl rfl)) (iss_cons (is_expr (ie_meth mt_appD (ie_var (pv 6)) (ia_cons (ie_var (pv 5)) ia_nil)))
    (iss_one (is_set (i := 5) S.nd rfl (.inl rfl) (ie_bin op_addD (ie_var (pv 5)) (ie_call (c_size_in T 12) (hr.mono (by omega)) rfl (ia_cons (ie_var (pv 7)) ia_nil)))))))
    (iss_one (is_expr (ie_meth mt_appD (ie_var (pv 2)) (ia_cons (ie_callTy call_tupD rfl (T.free 129 rfl) (by decide +kernel) (ia_cons (ie_var (pv 6)) ia_nil)) ia_nil)))))))
    (iss_one (is_ret (ie_var (pv 2))))))
theorem sc_nodes_under : FnScope ["tree"] ["tree"] (defScope (top 95)) := ⟨rfl, rfl, rfl, by decide +kernel, rfl, by decide +kernel, by decide +kernel⟩
def m_nodes_under : FA := flatF ( mDef 0
    (mRet (mCall (fa1 tupF) (mCons (mCallF 1 m_names_under (mCons (mCallF 1 m_sure_tree (mCons (mVar 0) mNil)) mNil)) mNil))))
theorem c_nodes_under {P : Program} {w : World} {K : PySem.W.Frag} {mg : Str → Option Value} {base : Heap} (T : Top K mg) : CallM P w K mg base 16 1 "nodes_under" m_nodes_under := by
  obtain ⟨fd, F, hm⟩ := T.def_ 77 (d := dd "nodes_under" 95) rfl rfl
  refine CallM.flat (call_def (st := top 95) F sc_nodes_under hm rfl rfl (fun _ _ _ _ _ _ us hl => match us, hl with | [_], _ => rfl) (fun cdv A outer s H E hr => ?_))
  have S := sc_nodes_under
  exact (iss_one (is_ret (ie_callTy call_tupD rfl (T.free 129 rfl) (by decide +kernel) (ia_cons (ie_call (c_names_under T) (hr.mono (by omega)) rfl (ia_cons (ie_call (c_sure_tree T) (hr.mono (by omega)) rfl (ia_cons (ie_var (pv 0)) ia_nil)) ia_nil)) ia_nil))))
theorem sc_trees_of_degree : FnScope ["degree", "many", "most", "tree"] ["degree", "many"] (defScope (top 98)) := ⟨rfl, rfl, rfl, by decide +kernel, rfl, by decide +kernel, by decide +kernel⟩
def m_trees_of_degree : FA := flatF ( mDef 2
    (mSeq (mSet 2 (mCallF 1 m_sure_count (mCons (mVar 0) mNil)))
    (mRet (mLc (mSeqI (mCallF 1 g_listed (mCons (mCallF 3 m_sure_within (mCons (mVar 1) (mCons (mC (.int 1)) (mCons (mBin addD (mC (.int 7)) (mC (.int 1))) mNil)))) mNil))) (gN 3) (mTB (mBin (cmpD oLe) (mCallF 1 (m_most_in 12) (mCons (mVar 3) mNil)) (mVar 2))) (mVar 3) [3]))))
theorem c_trees_of_degree {P : Program} {w : World} {K : PySem.W.Frag} {mg : Str → Option Value} {base : Heap} (T : Top K mg) : CallM P w K mg base 16 2 "trees_of_degree" m_trees_of_degree := by
  obtain ⟨fd, F, hm⟩ := T.def_ 78 (d := dd "trees_of_degree" 98) rfl rfl
  refine CallM.flat (call_def (st := top 98) F sc_trees_of_degree hm rfl rfl (fun _ _ _ _ _ _ us hl => match us, hl with | [_, _], _ => rfl) (fun cdv A outer s H E hr => ?_))
  have S := sc_trees_of_degree
  exact (iss_cons (is_set (i := 2) S.nd rfl (.inr rfl) (ie_call (c_sure_count T) (hr.mono (by omega)) rfl (ia_cons (ie_var (pv 0)) ia_nil)))
    (iss_one (is_ret (ie_lc (own := [("tree", 3)]) rfl S.nd (ii_seq (ie_call (o_listed T) (hr.mono (by omega)) rfl (ia_cons (ie_call (c_sure_within T) (hr.mono (by omega)) rfl (ia_cons (ie_var (pv 1)) (ia_cons ie_int (ia_cons (ie_bin op_addD (ie_cst (T.cst 138 rfl) rfl) ie_int) ia_nil)))) ia_nil))) (blkOk_by (by kernel_rfl)) (fun _ _ _ _ _ => (ij_name (i := 3) S.nd rfl (.inl rfl))) (fun _ _ _ _ _ => (its_one (it_cmp (op_leD hr.u64) (ie_call (c_most_in T 12) (hr.mono (by omega)) rfl (ia_cons (ie_var (pv 3)) ia_nil)) (ie_var (pv 2))))) (fun _ _ _ _ _ => (ie_var (pv 3))) (by decide)))))
theorem sc_how_many_of_degree : FnScope ["degree", "many"] ["degree", "many"] (defScope (top 99)) := ⟨rfl, rfl, rfl, by decide +kernel, rfl, by decide +kernel, by decide +kernel⟩
def m_how_many_of_degree : FA := flatF ( mDef 0
    (mRet (mCall (fa1 lenF) (mCons (mCallF 2 m_trees_of_degree (mCons (mVar 0) (mCons (mVar 1) mNil))) mNil))))
theorem c_how_many_of_degree {P : Program} {w : World} {K : PySem.W.Frag} {mg : Str → Option Value} {base : Heap} (T : Top K mg) : CallM P w K mg base 17 2 "how_many_of_degree" m_how_many_of_degree := by
  obtain ⟨fd, F, hm⟩ := T.def_ 79 (d := dd "how_many_of_degree" 99) rfl rfl
  refine CallM.flat (call_def (st := top 99) F sc_how_many_of_degree hm rfl rfl (fun _ _ _ _ _ _ us hl => match us, hl with | [_, _], _ => rfl) (fun cdv A outer s H E hr => ?_))
  have S := sc_how_many_of_degree
  exact (iss_one (is_ret (ie_callB call_lenD rfl (T.free 120 rfl) PySem.boot_len (ia_cons (ie_call (c_trees_of_degree T) (hr.mono (by omega)) rfl (ia_cons (ie_var (pv 0)) (ia_cons (ie_var (pv 1)) ia_nil))) ia_nil))))
theorem sc_lot_of : FnScope ["tree"] ["tree"] (defScope (top 100)) := ⟨rfl, rfl, rfl, by decide +kernel, rfl, by decide +kernel, by decide +kernel⟩
def m_lot_of : FA := flatF ( mDef 0
    (mRet (mCall (fa1 tupF) (mCons (mCall (fa1 srtF) (mCons (mCallF 1 (m_hangings_in 12) (mCons (mVar 0) mNil)) mNil)) mNil))))
theorem c_lot_of {P : Program} {w : World} {K : PySem.W.Frag} {mg : Str → Option Value} {base : Heap} (T : Top K mg) : CallM P w K mg base 14 1 "lot_of" m_lot_of := by
  obtain ⟨fd, F, hm⟩ := T.def_ 80 (d := dd "lot_of" 100) rfl rfl
  refine CallM.flat (call_def (st := top 100) F sc_lot_of hm rfl rfl (fun _ _ _ _ _ _ us hl => match us, hl with | [_], _ => rfl) (fun cdv A outer s H E hr => ?_))
  have S := sc_lot_of
  exact (iss_one (is_ret (ie_callTy call_tupD rfl (T.free 129 rfl) (by decide +kernel) (ia_cons (ie_callB (call_srtD hr.u64) rfl (T.free 126 rfl) (by decide +kernel) (ia_cons (ie_call (c_hangings_in T 12) (hr.mono (by omega)) rfl (ia_cons (ie_var (pv 0)) ia_nil)) ia_nil)) ia_nil))))
theorem sc_lots_in : FnScope ["many", "found", "tree"] ["many"] (defScope (top 101)) := ⟨rfl, rfl, rfl, by decide +kernel, rfl, by decide +kernel, by decide +kernel⟩
def m_lots_in : FA := ( mDef 2
    (mSeq (mSet 1 mDnew)
    (mSeq (mFor (mSeqI (mCallF 1 g_listed (mCons (mVar 0) mNil))) (gN 2) (mExpr (mMeth okL appF (mMeth okDc sdefF (mVar 1) (mCons (mCallF 1 m_lot_of (mCons (mVar 2) mNil)) (mCons (mLst mNil) mNil))) (mCons (mVar 2) mNil))))
    (mRet (mVar 1)))))
theorem c_lots_in {P : Program} {w : World} {K : PySem.W.Frag} {mg : Str → Option Value} {base : Heap} (T : Top K mg) : CallM P w K mg base 16 1 "lots_in" m_lots_in := by
  obtain ⟨fd, F, hm⟩ := T.def_ 81 (d := dd "lots_in" 101) rfl rfl
  refine id (call_def (st := top 101) F sc_lots_in hm rfl rfl (fun _ _ _ _ _ _ us hl => match us, hl with | [_], _ => rfl) (fun cdv A outer s H E hr => ?_))
  have S := sc_lots_in
  exact (iss_cons (is_set (i := 1) S.nd rfl (.inl rfl) ie_dnew)
    (iss_cons (is_for rfl PassesOwn.never (ii_seq (ie_call (o_listed T) (hr.mono (by omega)) rfl (ia_cons (ie_var (pv 0)) ia_nil))) (ij_name (i := 2) S.nd rfl (.inl rfl)) (iss_one (is_expr (ie_meth mt_appD (ie_meth (mt_sdefD hr.u64) (ie_var (pv 1)) (ia_cons (ie_call (c_lot_of T) (hr.mono (by omega)) rfl (ia_cons (ie_var (pv 2)) ia_nil)) (ia_cons (ie_lst ia_nil) ia_nil))) (ia_cons (ie_var (pv 2)) ia_nil)))))
    (iss_one (is_ret (ie_var (pv 1))))))
theorem sc_number_lots : FnScope ["many", "found", "lot"] ["many"] (defScope (top 102)) := ⟨rfl, rfl, rfl, by decide +kernel, rfl, by decide +kernel, by decide +kernel⟩
def m_number_lots : FA := flatF ( mDef 2
    (mSeq (mSet 1 (mCallF 1 m_lots_in (mCons (mCallF 3 m_sure_within (mCons (mVar 0) (mCons (mC (.int 1)) (mCons (mBin addD (mC (.int 7)) (mC (.int 1))) mNil)))) mNil)))
    (mRet (mLc (mSeqI (mCall (fa1 skeyF) (mCons (mVar 1) mNil))) (gN 2) mYes (mTup (mCons (mVar 2) (mCons (mCall (fa1 tupF) (mCons (mBin dgetD (mVar 1) (mVar 2)) mNil)) mNil))) [2]))))
theorem c_number_lots {P : Program} {w : World} {K : PySem.W.Frag} {mg : Str → Option Value} {base : Heap} (T : Top K mg) : CallM P w K mg base 17 1 "number_lots" m_number_lots := by
  obtain ⟨fd, F, hm⟩ := T.def_ 82 (d := dd "number_lots" 102) rfl rfl
  refine CallM.flat (call_def (st := top 102) F sc_number_lots hm rfl rfl (fun _ _ _ _ _ _ us hl => match us, hl with | [_], _ => rfl) (fun cdv A outer s H E hr => ?_))
  have S := sc_number_lots
  exact (iss_cons (is_set (i := 1) S.nd rfl (.inr rfl) (ie_call (c_lots_in T) (hr.mono (by omega)) rfl (ia_cons (ie_call (c_sure_within T) (hr.mono (by omega)) rfl (ia_cons (ie_var (pv 0)) (ia_cons ie_int (ia_cons (ie_bin op_addD (ie_cst (T.cst 138 rfl) rfl) ie_int) ia_nil)))) ia_nil)))
    (iss_one (is_ret (ie_lc (own := [("lot", 2)]) rfl S.nd (ii_seq (ie_callB (call_skeyD rfl hr.u64) rfl (T.free 126 rfl) PyProof.Rows.boot_sorted (ia_cons (ie_var (pv 1)) ia_nil))) (blkOk_by (by kernel_rfl)) (fun _ _ _ _ _ => (ij_name (i := 2) S.nd rfl (.inl rfl))) (fun _ _ _ _ _ => its_nil) (fun _ _ _ _ _ => (ie_tup (ia_cons (ie_var (pv 2)) (ia_cons (ie_callTy call_tupD rfl (T.free 129 rfl) (by decide +kernel) (ia_cons (ie_dget hr.u64 (ie_var (pv 1)) (ie_var (pv 2))) ia_nil)) ia_nil)))) (by decide)))))
theorem sc_lot_counts : FnScope ["many", "most", "ways", "part", "whole"] ["many"] (defScope (top 103)) := ⟨rfl, rfl, rfl, by decide +kernel, rfl, by decide +kernel, by decide +kernel⟩
def m_lot_counts : FA := flatF ( mDef 4
    (mSeq (mSet 1 (mCallF 3 m_sure_within (mCons (mVar 0) (mCons (mC (.int 1)) (mCons (mC (.int 60)) mNil)))))
    (mSeq (mSet 2 (mBin addD (mLst (mCons (mC (.int 1)) mNil)) (mBin mulD (mLst (mCons (mC (.int 0)) mNil)) (mVar 1))))
    (mSeq (mFor (mRg2I (mCons (mC (.int 1)) (mCons (mVar 1) mNil))) (gN 3) (mFor (mRg2I (mCons (mVar 3) (mCons (mVar 1) mNil))) (gN 4) (mAsg (mBin addD (mBin ixD (mVar 2) (mVar 4)) (mBin ixD (mVar 2) (mBin subD (mVar 4) (mVar 3)))) (gSubL (mVar 2) (mVar 4)))))
    (mRet (mCall (fa1 tupF) (mCons (mSlice (mVar 2) mNoPart (mPart (mVar 1))) mNil)))))))
theorem c_lot_counts {P : Program} {w : World} {K : PySem.W.Frag} {mg : Str → Option Value} {base : Heap} (T : Top K mg) : CallM P w K mg base 3 1 "lot_counts" m_lot_counts := by
  obtain ⟨fd, F, hm⟩ := T.def_ 83 (d := dd "lot_counts" 103) rfl rfl
  refine CallM.flat (call_def (st := top 103) F sc_lot_counts hm rfl rfl (fun _ _ _ _ _ _ us hl => match us, hl with | [_], _ => rfl) (fun cdv A outer s H E hr => ?_))
  have S := sc_lot_counts
  exact (iss_cons (is_set (i := 1) S.nd rfl (.inl rfl) (ie_call (c_sure_within T) (hr.mono (by omega)) rfl (ia_cons (ie_var (pv 0)) (ia_cons ie_int (ia_cons ie_int ia_nil)))))
    (iss_cons (is_set (i := 2) S.nd rfl (.inl rfl) (ie_bin op_addD (ie_lst (ia_cons ie_int ia_nil)) (ie_bin op_mulD (ie_lst (ia_cons ie_int ia_nil)) (ie_var (pv 1)))))
    (iss_cons (is_for rfl PassesOwn.never (ii_rg2 rfl (T.free 124 rfl) (ia_cons ie_int (ia_cons (ie_var (pv 1)) ia_nil))) (ij_name (i := 3) S.nd rfl (.inl rfl)) (iss_one (is_for rfl PassesOwn.never (ii_rg2 rfl (T.free 124 rfl) (ia_cons (ie_var (pv 3)) (ia_cons (ie_var (pv 1)) ia_nil))) (ij_name (i := 4) S.nd rfl (.inl rfl)) (iss_one (is_asg (ie_bin op_addD (ie_ix (ie_var (pv 2)) (ie_var (pv 4))) (ie_ix (ie_var (pv 2)) (ie_bin op_subD (ie_var (pv 4)) (ie_var (pv 3))))) (ij_sub (ie_var (pv 2)) (ie_var (pv 4))))))))
    (iss_one (is_ret (ie_callTy call_tupD rfl (T.free 129 rfl) (by decide +kernel) (ia_cons (ie_slice (ie_var (pv 2)) io_none (io_some (ie_var (pv 1)))) ia_nil)))))))
def g_lot_counts : FA := oneF 24 (.tup [.int 1, .int 1, .int 2, .int 3, .int 5, .int 7, .int 11, .int 15, .int 22, .int 30, .int 42, .int 56, .int 77, .int 101, .int 135, .int 176, .int 231, .int 297, .int 385, .int 490, .int 627, .int 792, .int 1002, .int 1255])
theorem o_lot_counts {P : Program} {w : World} {K : PySem.W.Frag} {mg : Str → Option Value} {base : Heap} (T : Top K mg) : CallM P w K mg base 3 1 "lot_counts" g_lot_counts := (c_lot_counts T).one (by decide +kernel)
theorem sc__law_box : FnScope ["script", "k", "cell"] ["script", "k"] (defScope (top 105)) := ⟨rfl, rfl, rfl, by decide +kernel, rfl, by decide +kernel, by decide +kernel⟩
def m__law_box : FA := ( mDef 1
    (mSeq (mSet 2 (mIf (mTB (mBin (cmpD oLt) (mVar 1) (mCall (fa1 lenF) (mCons (mVar 0) mNil)))) (mBin ixD (mVar 0) (mVar 1)) (mC (.int 0))))
    (mRet (mLst (mCons (mBin mulD (mCall (fa1 absF) (mCons (mVar 2) mNil)) (mCall (fa1 intF) (mCons (mBin (cmpD oGe) (mCall (fa1 absF) (mCons (mVar 2) mNil)) (mBin powD (mC (.int 10)) (mC (.int 18)))) mNil))) (mCons (mBin addD (mBin addD (mBin modD (mCall (fa1 intF) (mCons (mVar 2) mNil)) (mC (.int 2305843009213693951))) (mBin mulD (mC (.int 39373)) (mVar 1))) (mC (.int 24770))) (mCons (mC (.int 0)) mNil)))))))
theorem c__law_box {P : Program} {w : World} {K : PySem.W.Frag} {mg : Str → Option Value} {base : Heap} (T : Top K mg) : CallM P w K mg base 1 2 "_law_box" m__law_box := by
  obtain ⟨fd, F, hm⟩ := T.def_ 84 (d := dd "_law_box" 105) rfl rfl
  refine id (call_def (st := top 105) F sc__law_box hm rfl rfl (fun _ _ _ _ _ _ us hl => match us, hl with | [_, _], _ => rfl) (fun cdv A outer s H E hr => ?_))
  have S := sc__law_box
  exact (iss_cons (is_set (i := 2) S.nd rfl (.inl rfl) (ie_if (it_cmp (op_ltD hr.u64) (ie_var (pv 1)) (ie_callB call_lenD rfl (T.free 120 rfl) PySem.boot_len (ia_cons (ie_var (pv 0)) ia_nil))) (ie_ix (ie_var (pv 0)) (ie_var (pv 1))) ie_int))
    (iss_one (is_ret (ie_lst (ia_cons (ie_bin op_mulD (ie_callB call_absD rfl (T.free 114 rfl) (by decide +kernel) (ia_cons (ie_var (pv 2)) ia_nil)) (ie_callTy call_intD rfl (T.free 118 rfl) (by decide +kernel) (ia_cons (ie_cmp (op_geD hr.u64) (ie_callB call_absD rfl (T.free 114 rfl) (by decide +kernel) (ia_cons (ie_var (pv 2)) ia_nil)) (ie_bin op_powD ie_int ie_int)) ia_nil))) (ia_cons (ie_bin op_addD (ie_bin op_addD (ie_bin op_modD (ie_callTy call_intD rfl (T.free 118 rfl) (by decide +kernel) (ia_cons (ie_var (pv 2)) ia_nil)) ie_int) (ie_bin op_mulD ie_int (ie_var (pv 1)))) ie_int) (ia_cons ie_int ia_nil)))))))
theorem sc__law_take : FnScope ["tin", "below_so", "drawn", "once_so", "wide_so", "twice_so"] ["tin", "below_so"] (defScope (top 106)) := ⟨rfl, rfl, rfl, by decide +kernel, rfl, by decide +kernel, by decide +kernel⟩
def m__law_take : FA := ( mDef 4
    (mSeq (mIfS (mTB (mBin (cmpD oGt) (mBin ixD (mVar 0) (mC (.int 0))) (mC (.int 0)))) (mSeq (mSet 2 (mBin modD (mCall (fa1 intF) (mCons (mBin ixD (mVar 0) (mC (.int 0))) mNil)) (mVar 1)))
    (mSeq (mAsg (mBin divD (mBin ixD (mVar 0) (mC (.int 0))) (mVar 1)) (gSubL (mVar 0) (mC (.int 0))))
    (mRet (mVar 2)))) mNext)
    (mSeq (mAsg (mBin addD (mBin ixD (mVar 0) (mC (.int 2))) (mC (.int 1))) (gSubL (mVar 0) (mC (.int 2))))
    (mSeq (mSet 3 (mBin modD (mCall (fa1 intF) (mCons (mBin mulD (mBin addD (mBin ixD (mVar 0) (mC (.int 1))) (mBin mulD (mC (.int 48271)) (mBin ixD (mVar 0) (mC (.int 2))))) (mBin addD (mC (.int 39373)) (mBin ixD (mVar 0) (mC (.int 2))))) mNil)) (mC (.int 2147483647))))
    (mSeq (mSet 4 (mBin addD (mBin modD (mCall (fa1 intF) (mCons (mVar 3) mNil)) (mC (.int 40009))) (mC (.int 7))))
    (mSeq (mSet 5 (mBin modD (mCall (fa1 intF) (mCons (mBin mulD (mBin addD (mBin addD (mVar 3) (mBin ixD (mVar 0) (mC (.int 2)))) (mBin divD (mBin ixD (mVar 0) (mC (.int 1))) (mC (.int 1000003)))) (mVar 4)) mNil)) (mC (.int 2147483629))))
    (mRet (mBin modD (mCall (fa1 intF) (mCons (mBin divD (mBin modD (mCall (fa1 intF) (mCons (mBin addD (mBin mulD (mVar 5) (mC (.int 48271))) (mVar 3)) mNil)) (mC (.int 2147483587))) (mC (.int 64))) mNil)) (mVar 1)))))))))
theorem c__law_take {P : Program} {w : World} {K : PySem.W.Frag} {mg : Str → Option Value} {base : Heap} (T : Top K mg) : CallM P w K mg base 1 2 "_law_take" m__law_take := by
  obtain ⟨fd, F, hm⟩ := T.def_ 85 (d := dd "_law_take" 106) rfl rfl
  refine id (call_def (st := top 106) F sc__law_take hm rfl rfl (fun _ _ _ _ _ _ us hl => match us, hl with | [_, _], _ => rfl) (fun cdv A outer s H E hr => ?_))
  have S := sc__law_take
  exact (iss_cons (is_if (it_cmp (op_gtD hr.u64) (ie_ix (ie_var (pv 0)) ie_int) ie_int) (iss_cons (is_set (i := 2) S.nd rfl (.inl rfl) (ie_bin op_modD (ie_callTy call_intD rfl (T.free 118 rfl) (by decide +kernel) (ia_cons (ie_ix (ie_var (pv 0)) ie_int) ia_nil)) (ie_var (pv 1))))
    (iss_cons (is_asg (ie_bin op_divD (ie_ix (ie_var (pv 0)) ie_int) (ie_var (pv 1))) (ij_sub (ie_var (pv 0)) ie_int))
    (iss_one (is_ret (ie_var (pv 2)))))) iss_nil)
    (iss_cons (is_asg (ie_bin op_addD (ie_ix (ie_var (pv 0)) ie_int) ie_int) (ij_sub (ie_var (pv 0)) ie_int))
    (iss_cons (is_set (i := 3) S.nd rfl (.inl rfl) (ie_bin op_modD (ie_callTy call_intD rfl (T.free 118 rfl) (by decide +kernel) (ia_cons (ie_bin op_mulD (ie_bin op_addD (ie_ix (ie_var (pv 0)) ie_int) (ie_bin op_mulD ie_int (ie_ix (ie_var (pv 0)) ie_int))) (ie_bin op_addD ie_int (ie_ix (ie_var (pv 0)) ie_int))) ia_nil)) ie_int))
    (iss_cons (is_set (i := 4) S.nd rfl (.inl rfl) (ie_bin op_addD (ie_bin op_modD (ie_callTy call_intD rfl (T.free 118 rfl) (by decide +kernel) (ia_cons (ie_var (pv 3)) ia_nil)) ie_int) ie_int))
    (iss_cons (is_set (i := 5) S.nd rfl (.inl rfl) (ie_bin op_modD (ie_callTy call_intD rfl (T.free 118 rfl) (by decide +kernel) (ia_cons (ie_bin op_mulD (ie_bin op_addD (ie_bin op_addD (ie_var (pv 3)) (ie_ix (ie_var (pv 0)) ie_int)) (ie_bin op_divD (ie_ix (ie_var (pv 0)) ie_int) ie_int)) (ie_var (pv 4))) ia_nil)) ie_int))
    (iss_one (is_ret (ie_bin op_modD (ie_callTy call_intD rfl (T.free 118 rfl) (by decide +kernel) (ia_cons (ie_bin op_divD (ie_bin op_modD (ie_callTy call_intD rfl (T.free 118 rfl) (by decide +kernel) (ia_cons (ie_bin op_addD (ie_bin op_mulD (ie_var (pv 5)) ie_int) (ie_var (pv 3))) ia_nil)) ie_int) ie_int) ia_nil)) (ie_var (pv 1))))))))))
theorem take_pos {i j k m : Int} (hi : 0 < i) (h1 : 0 < m) (h2 : m < 1000000) : m__law_take [.ref 0, .int m] (oneH (.lst 0 [.int i, .int j, .int k])) = .ok (.int (i % m)) ((oneH (.lst 0 [.int i, .int j, .int k])).put 0 (.lst 0 [.int (i / m), .int j, .int k])) := by
  refine ev_def (ev_seqR (ev_ifT (ev_tb (ev_bin (ev_bin rfl rfl rfl) rfl (ev_gtT hi))) ?_))
  refine ev_seq (ev_set (ev_bin (ev_call1 (ev_bin rfl rfl rfl) rfl) rfl (ev_mod h1))) ?_
  refine ev_seq (ev_asg (ev_bin (ev_bin rfl rfl rfl) rfl (ev_div h1 (by omega))) (ev_sub rfl rfl rfl rfl)) ?_
  exact ev_ret rfl
theorem take_neg {i j k m : Int} (hi : ¬ 0 < i) (k0 : 0 ≤ k) (k1 : k < 1000000000) (h1 : 0 < m) (h2 : m < 1000000) :
    ∃ d : Int, m__law_take [.ref 0, .int m] (oneH (.lst 0 [.int i, .int j, .int k])) = .ok (.int (d % m)) ((oneH (.lst 0 [.int i, .int j, .int k])).put 0 (.lst 0 [.int i, .int j, .int (k + 1)])) := by
  have p1 : ((48271 : Int) * (k + 1)).natAbs < 1152921504606846976 := by omega
  refine ⟨((((((((j + 48271 * (k + 1)) * (39373 + (k + 1))) % 2147483647 + (k + 1) + j / 1000003) * (((j + 48271 * (k + 1)) * (39373 + (k + 1))) % 2147483647 % 40009 + 7)) % 2147483629) * 48271 + ((j + 48271 * (k + 1)) * (39373 + (k + 1))) % 2147483647) % 2147483587) / 64), ev_def (ev_seq (ev_ifF (ev_tb (ev_bin (ev_bin rfl rfl rfl) rfl (ev_gtF hi))) rfl) ?_)⟩
  refine ev_seq (ev_asg (ev_bin (ev_bin rfl rfl rfl) rfl rfl) (ev_sub rfl rfl rfl rfl)) ?_
  refine ev_seq (ev_set (ev_bin (ev_call1 (ev_bin (ev_bin (ev_bin rfl rfl rfl) (ev_bin rfl (ev_bin rfl rfl rfl) (ev_mul (by omega))) rfl) (ev_bin rfl (ev_bin rfl rfl rfl) rfl) (ev_mul (by omega))) rfl) rfl (ev_mod (by decide)))) ?_
  refine ev_seq (ev_set (ev_bin (ev_bin (ev_call1 rfl rfl) rfl (ev_mod (by decide))) rfl rfl)) ?_
  refine ev_seq (ev_set (ev_bin (ev_call1 (ev_bin (ev_bin (ev_bin rfl (ev_bin rfl rfl rfl) rfl) (ev_bin (ev_bin rfl rfl rfl) rfl (ev_div (by decide) (by decide))) rfl) rfl (ev_mul (by
    have : ∀ x : Int, (x % 40009 + 7).natAbs < 1152921504606846976 := fun x => by have := Int.emod_nonneg x (show (40009 : Int) ≠ 0 by decide); have := Int.emod_lt_of_pos x (show (0 : Int) < 40009 by decide); omega
    exact this _))) rfl) rfl (ev_mod (by decide)))) ?_
  exact ev_ret (ev_bin (ev_call1 (ev_bin (ev_bin (ev_call1 (ev_bin (ev_bin rfl rfl (ev_mul (by decide))) rfl rfl) rfl) rfl (ev_mod (by decide))) rfl (ev_div (by decide) (by decide))) rfl) rfl (ev_mod h1))
def g__law_take : FA := takeF
theorem o__law_take {P : Program} {w : World} {K : PySem.W.Frag} {mg : Str → Option Value} {base : Heap} (T : Top K mg) : CallM P w K mg base 1 2 "_law_take" g__law_take := (c__law_take T).take (fun i j k m a b c => take_pos a b c) (fun i j k m a b c d e => take_neg a b c d e)
theorem sc__law_cells : FnScope ["script", "most_so", "cells_so", "k", "cell_so", "at_so"] ["script", "most_so"] (defScope (top 107)) := ⟨rfl, rfl, rfl, by decide +kernel, rfl, by decide +kernel, by decide +kernel⟩
def m__law_cells : FA := ( mDef 4
    (mSeq (mSet 2 (mOrV (mCall (fa1 lstF) (mCons (mSlice (mVar 0) mNoPart (mPart (mVar 1))) mNil)) (mLst (mCons (mC (.int 0)) mNil))))
    (mSeq (mFor (mEnumI (mSlice (mVar 0) (mPart (mVar 1)) (mPart (mC (.int 63))))) (gTupM 2 (gsCons (gN 3) (gsCons (gN 4) gsNil))) (mSeq (mSet 5 (mBin modD (mCall (fa1 intF) (mCons (mVar 3) mNil)) (mVar 1)))
    (mAsg (mBin addD (mBin ixD (mVar 2) (mVar 5)) (mBin mulD (mVar 4) (mBin addD (mVar 3) (mC (.int 2))))) (gSubL (mVar 2) (mVar 5)))))
    (mRet (mVar 2)))))
theorem c__law_cells {P : Program} {w : World} {K : PySem.W.Frag} {mg : Str → Option Value} {base : Heap} (T : Top K mg) : CallM P w K mg base 1 2 "_law_cells" m__law_cells := by
  obtain ⟨fd, F, hm⟩ := T.def_ 86 (d := dd "_law_cells" 107) rfl rfl
  refine id (call_def (st := top 107) F sc__law_cells hm rfl rfl (fun _ _ _ _ _ _ us hl => match us, hl with | [_, _], _ => rfl) (fun cdv A outer s H E hr => ?_))
  have S := sc__law_cells
  exact (iss_cons (is_set (i := 2) S.nd rfl (.inl rfl) (ie_or (ie_callTy call_lstD rfl (T.free 121 rfl) (by decide +kernel) (ia_cons (ie_slice (ie_var (pv 0)) io_none (io_some (ie_var (pv 1)))) ia_nil)) (ie_one (ie_lst (ia_cons ie_int ia_nil)))))
    (iss_cons (is_for rfl PassesOwn.never (ii_enum rfl (T.free 117 rfl) (ie_slice (ie_var (pv 0)) (io_some (ie_var (pv 1))) (io_some ie_int))) (ij_tup rfl (ijs_cons (ij_name (i := 3) S.nd rfl (.inl rfl)) (ijs_cons (ij_name (i := 4) S.nd rfl (.inl rfl)) ijs_nil))) (iss_cons (is_set (i := 5) S.nd rfl (.inl rfl) (ie_bin op_modD (ie_callTy call_intD rfl (T.free 118 rfl) (by decide +kernel) (ia_cons (ie_var (pv 3)) ia_nil)) (ie_var (pv 1))))
    (iss_one (is_asg (ie_bin op_addD (ie_ix (ie_var (pv 2)) (ie_var (pv 5))) (ie_bin op_mulD (ie_var (pv 4)) (ie_bin op_addD (ie_var (pv 3)) ie_int))) (ij_sub (ie_var (pv 2)) (ie_var (pv 5)))))))
    (iss_one (is_ret (ie_var (pv 2))))))
theorem sc__law_of : FnScope ["tin", "goods_so"] ["tin", "goods_so"] (defScope (top 108)) := ⟨rfl, rfl, rfl, by decide +kernel, rfl, by decide +kernel, by decide +kernel⟩
def m__law_of : FA := ( mDef 0
    (mRet (mBin ixD (mVar 1) (mCallF 2 g__law_take (mCons (mVar 0) (mCons (mCall (fa1 lenF) (mCons (mVar 1) mNil)) mNil))))))
theorem c__law_of {P : Program} {w : World} {K : PySem.W.Frag} {mg : Str → Option Value} {base : Heap} (T : Top K mg) : CallM P w K mg base 2 2 "_law_of" m__law_of := by
  obtain ⟨fd, F, hm⟩ := T.def_ 87 (d := dd "_law_of" 108) rfl rfl
  refine id (call_def (st := top 108) F sc__law_of hm rfl rfl (fun _ _ _ _ _ _ us hl => match us, hl with | [_, _], _ => rfl) (fun cdv A outer s H E hr => ?_))
  have S := sc__law_of
  exact (iss_one (is_ret (ie_ix (ie_var (pv 1)) (ie_call (o__law_take T) (hr.mono (by omega)) rfl (ia_cons (ie_var (pv 0)) (ia_cons (ie_callB call_lenD rfl (T.free 120 rfl) PySem.boot_len (ia_cons (ie_var (pv 1)) ia_nil)) ia_nil))))))
theorem sc__law_same : FnScope ["got", "due", "mine", "its"] ["got", "due"] (defScope (top 109)) := ⟨rfl, rfl, rfl, by decide +kernel, rfl, by decide +kernel, by decide +kernel⟩
def b__law_same (self : FA) : MS :=
    (mSeq (mIfS (mTV (mUn (isiF [.lst, .tup]) (mVar 1))) (mSeq (mIfS (mOr (mTB (mBin neD (mUn (isiF [.lst]) (mVar 0)) (mUn (isiF [.lst]) (mVar 1)))) (mTB (mBin neD (mUn (isiF [.tup]) (mVar 0)) (mUn (isiF [.tup]) (mVar 1))))) (mRet (mC (.bl false))) mNext)
    (mRet (mAndV (mBin eqD (mCall (fa1 lenF) (mCons (mVar 0) mNil)) (mCall (fa1 lenF) (mCons (mVar 1) mNil))) (mCall (fa1 allF) (mCons (mLc (mZipI (mCons (mVar 0) (mCons (mVar 1) mNil))) (gTupM 2 (gsCons (gN 2) (gsCons (gN 3) gsNil))) mYes (mCallF 2 self (mCons (mVar 2) (mCons (mVar 3) mNil))) [2, 3]) mNil))))) mNext)
    (mSeq (mIfS (mOr (mTB (mBin (isN false) (mVar 1) (mC .non))) (mTV (mUn (isiF [.bl, .str]) (mVar 1)))) (mRet (mAndV (mBin eqD (mVar 0) (mVar 1)) (mAndV (mBin eqD (mUn (isiF [.bl]) (mVar 0)) (mUn (isiF [.bl]) (mVar 1))) (mBin eqD (mBin (isN false) (mVar 0) (mC .non)) (mBin (isN false) (mVar 1) (mC .non)))))) mNext)
    (mRet (mAndV (mUn (isiF [.int]) (mVar 0)) (mAndV (mNotV (mUn (isiF [.bl]) (mVar 0))) (mBin eqD (mVar 0) (mVar 1)))))))
def m__law_same : Nat → FA := mRecF 2 b__law_same
theorem c__law_same {P : Program} {w : World} {K : PySem.W.Frag} {mg : Str → Option Value} {base : Heap} (T : Top K mg) (k : Nat) : CallM P w K mg base (0 + k + 1) 2 "_law_same" (m__law_same k) := by
  obtain ⟨fd, F, hm⟩ := T.def_ 88 (d := dd "_law_same" 109) rfl rfl
  refine call_recF (st := top 109) F sc__law_same hm rfl rfl (fun _ _ _ _ _ _ us hl => match us, hl with | [_, _], _ => rfl) (fun self k cself cdv A outer s H E hr => ?_) k
  have S := sc__law_same
  exact (iss_cons (is_if (it_val (ie_isi2 .lst .tup (ie_var (pv 1)) rfl (T.free 119 rfl) rfl (T.free 121 rfl) (by decide +kernel) rfl (T.free 129 rfl) (by decide +kernel))) (iss_cons (is_if (it_w (iw_or (it_cmp (op_neDD hr.u64) (ie_isi .lst (ie_var (pv 0)) rfl (T.free 119 rfl) rfl (T.free 121 rfl) (by decide +kernel)) (ie_isi .lst (ie_var (pv 1)) rfl (T.free 119 rfl) rfl (T.free 121 rfl) (by decide +kernel))) (iw_or1 (it_cmp (op_neDD hr.u64) (ie_isi .tup (ie_var (pv 0)) rfl (T.free 119 rfl) rfl (T.free 129 rfl) (by decide +kernel)) (ie_isi .tup (ie_var (pv 1)) rfl (T.free 119 rfl) rfl (T.free 129 rfl) (by decide +kernel)))))) (iss_one (is_ret ie_bl)) iss_nil)
    (iss_one (is_ret (ie_and (ie_cmp (op_eqDD hr.u64) (ie_callB call_lenD rfl (T.free 120 rfl) PySem.boot_len (ia_cons (ie_var (pv 0)) ia_nil)) (ie_callB call_lenD rfl (T.free 120 rfl) PySem.boot_len (ia_cons (ie_var (pv 1)) ia_nil))) (ie_one (ie_callB (call_allD rfl) rfl (T.free 115 rfl) (by decide +kernel) (ia_cons (ie_lc (own := [("mine", 2), ("its", 3)]) rfl S.nd (ii_zip rfl (T.free 130 rfl) (ia_cons (ie_var (pv 0)) (ia_cons (ie_var (pv 1)) ia_nil))) (blkOk_by (by kernel_rfl)) (fun _ _ _ _ _ => (ij_tup rfl (ijs_cons (ij_name (i := 2) S.nd rfl (.inl rfl)) (ijs_cons (ij_name (i := 3) S.nd rfl (.inl rfl)) ijs_nil)))) (fun _ _ _ _ _ => its_nil) (fun _ _ _ _ _ => (ie_call cself (hr.mono (by omega)) rfl (ia_cons (ie_var (pv 2)) (ia_cons (ie_var (pv 3)) ia_nil)))) (by decide)) ia_nil))))))) iss_nil)
    (iss_cons (is_if (it_w (iw_or (it_cmp op_isD (ie_var (pv 1)) ie_non) (iw_or1 (it_val (ie_isi2 .bl .str (ie_var (pv 1)) rfl (T.free 119 rfl) rfl (T.free 116 rfl) (by decide +kernel) rfl (T.free 127 rfl) (by decide +kernel)))))) (iss_one (is_ret (ie_and (ie_cmp (op_eqDD hr.u64) (ie_var (pv 0)) (ie_var (pv 1))) (ie_and (ie_cmp (op_eqDD hr.u64) (ie_isi .bl (ie_var (pv 0)) rfl (T.free 119 rfl) rfl (T.free 116 rfl) (by decide +kernel)) (ie_isi .bl (ie_var (pv 1)) rfl (T.free 119 rfl) rfl (T.free 116 rfl) (by decide +kernel))) (ie_one (ie_cmp (op_eqDD hr.u64) (ie_cmp op_isD (ie_var (pv 0)) ie_non) (ie_cmp op_isD (ie_var (pv 1)) ie_non))))))) iss_nil)
    (iss_one (is_ret (ie_and (ie_isi .int (ie_var (pv 0)) rfl (T.free 119 rfl) rfl (T.free 118 rfl) (by decide +kernel)) (ie_and (ie_not (ie_isi .bl (ie_var (pv 0)) rfl (T.free 119 rfl) rfl (T.free 116 rfl) (by decide +kernel))) (ie_one (ie_cmp (op_eqDD hr.u64) (ie_var (pv 0)) (ie_var (pv 1))))))))))
theorem sc__law_lists : FnScope ["matter", "bit"] ["matter"] (defScope (top 110)) := ⟨rfl, rfl, rfl, by decide +kernel, rfl, by decide +kernel, by decide +kernel⟩
def b__law_lists (self : FA) : MS :=
    (mRet (mIf (mTV (mUn (isiF [.lst, .tup]) (mVar 0))) (mLc (mSeqI (mVar 0)) (gN 1) mYes (mCallF 1 self (mCons (mVar 1) mNil)) [1]) (mVar 0)))
def m__law_lists : Nat → FA := mRec 1 b__law_lists
theorem c__law_lists {P : Program} {w : World} {K : PySem.W.Frag} {mg : Str → Option Value} {base : Heap} (T : Top K mg) (k : Nat) : CallM P w K mg base (0 + k + 1) 1 "_law_lists" (m__law_lists k) := by
  obtain ⟨fd, F, hm⟩ := T.def_ 89 (d := dd "_law_lists" 110) rfl rfl
  refine call_rec (st := top 110) F sc__law_lists hm rfl rfl (fun _ _ _ _ _ _ us hl => match us, hl with | [_], _ => rfl) (fun self k cself cdv A outer s H E hr => ?_) k
  have S := sc__law_lists
  exact (iss_one (is_ret (ie_if (it_val (ie_isi2 .lst .tup (ie_var (pv 0)) rfl (T.free 119 rfl) rfl (T.free 121 rfl) (by decide +kernel) rfl (T.free 129 rfl) (by decide +kernel))) (ie_lc (own := [("bit", 1)]) rfl S.nd (ii_seq (ie_var (pv 0))) (blkOk_by (by kernel_rfl)) (fun _ _ _ _ _ => (ij_name (i := 1) S.nd rfl (.inl rfl))) (fun _ _ _ _ _ => its_nil) (fun _ _ _ _ _ => (ie_call cself (hr.mono (by omega)) rfl (ia_cons (ie_var (pv 1)) ia_nil))) (by decide)) (ie_var (pv 0)))))
theorem sc__law_gcd : FnScope ["one", "other"] ["one", "other"] (defScope (top 111)) := ⟨rfl, rfl, rfl, by decide +kernel, rfl, by decide +kernel, by decide +kernel⟩
def m__law_gcd : FA := flatF ( mDef 0
    (mSeq (mWhile 300 (mTB (mBin neD (mVar 1) (mC (.int 0)))) (mPar 0 1 (mCons (mVar 1) (mCons (mBin modD (mVar 0) (mVar 1)) mNil))))
    (mRet (mCall (fa1 absF) (mCons (mVar 0) mNil)))))
theorem c__law_gcd {P : Program} {w : World} {K : PySem.W.Frag} {mg : Str → Option Value} {base : Heap} (T : Top K mg) : CallM P w K mg base 1 2 "_law_gcd" m__law_gcd := by
  obtain ⟨fd, F, hm⟩ := T.def_ 90 (d := dd "_law_gcd" 111) rfl rfl
  refine CallM.flat (call_def (st := top 111) F sc__law_gcd hm rfl rfl (fun _ _ _ _ _ _ us hl => match us, hl with | [_, _], _ => rfl) (fun cdv A outer s H E hr => ?_))
  have S := sc__law_gcd
  exact (iss_cons (is_while PassesOwn.never (it_cmp (op_neDD hr.u64) (ie_var (pv 1)) ie_int) (iss_one (is_par (i := 0) (j := 1) rfl S.nd rfl rfl (by decide) rfl rfl (ia_cons (ie_var (pv 1)) (ia_cons (ie_bin op_modD (ie_var (pv 0)) (ie_var (pv 1))) ia_nil)))))
    (iss_one (is_ret (ie_callB call_absD rfl (T.free 114 rfl) (by decide +kernel) (ia_cons (ie_var (pv 0)) ia_nil)))))
theorem sc__law_fr : FnScope ["high_so", "base_so", "deep_so"] ["high_so", "base_so"] (defScope (top 112)) := ⟨rfl, rfl, rfl, by decide +kernel, rfl, by decide +kernel, by decide +kernel⟩
def m__law_fr : FA := flatF ( mDef 1
    (mSeq (mSet 2 (mCallF 2 m__law_gcd (mCons (mVar 0) (mCons (mVar 1) mNil))))
    (mRet (mTup (mCons (mBin divD (mVar 0) (mVar 2)) (mCons (mBin divD (mVar 1) (mVar 2)) mNil))))))
theorem c__law_fr {P : Program} {w : World} {K : PySem.W.Frag} {mg : Str → Option Value} {base : Heap} (T : Top K mg) : CallM P w K mg base 2 2 "_law_fr" m__law_fr := by
  obtain ⟨fd, F, hm⟩ := T.def_ 91 (d := dd "_law_fr" 112) rfl rfl
  refine CallM.flat (call_def (st := top 112) F sc__law_fr hm rfl rfl (fun _ _ _ _ _ _ us hl => match us, hl with | [_, _], _ => rfl) (fun cdv A outer s H E hr => ?_))
  have S := sc__law_fr
  exact (iss_cons (is_set (i := 2) S.nd rfl (.inl rfl) (ie_call (c__law_gcd T) (hr.mono (by omega)) rfl (ia_cons (ie_var (pv 0)) (ia_cons (ie_var (pv 1)) ia_nil))))
    (iss_one (is_ret (ie_tup (ia_cons (ie_bin op_divD (ie_var (pv 0)) (ie_var (pv 2))) (ia_cons (ie_bin op_divD (ie_var (pv 1)) (ie_var (pv 2))) ia_nil))))))
theorem sc__law_sum : FnScope ["one", "other"] ["one", "other"] (defScope (top 113)) := ⟨rfl, rfl, rfl, by decide +kernel, rfl, by decide +kernel, by decide +kernel⟩
def m__law_sum : FA := flatF ( mDef 0
    (mRet (mCallF 2 m__law_fr (mCons (mBin addD (mBin mulD (mBin ixD (mVar 0) (mC (.int 0))) (mBin ixD (mVar 1) (mC (.int 1)))) (mBin mulD (mBin ixD (mVar 1) (mC (.int 0))) (mBin ixD (mVar 0) (mC (.int 1))))) (mCons (mBin mulD (mBin ixD (mVar 0) (mC (.int 1))) (mBin ixD (mVar 1) (mC (.int 1)))) mNil)))))
theorem c__law_sum {P : Program} {w : World} {K : PySem.W.Frag} {mg : Str → Option Value} {base : Heap} (T : Top K mg) : CallM P w K mg base 3 2 "_law_sum" m__law_sum := by
  obtain ⟨fd, F, hm⟩ := T.def_ 92 (d := dd "_law_sum" 113) rfl rfl
  refine CallM.flat (call_def (st := top 113) F sc__law_sum hm rfl rfl (fun _ _ _ _ _ _ us hl => match us, hl with | [_, _], _ => rfl) (fun cdv A outer s H E hr => ?_))
  have S := sc__law_sum
  exact (iss_one (is_ret (ie_call (c__law_fr T) (hr.mono (by omega)) rfl (ia_cons (ie_bin op_addD (ie_bin op_mulD (ie_ix (ie_var (pv 0)) ie_int) (ie_ix (ie_var (pv 1)) ie_int)) (ie_bin op_mulD (ie_ix (ie_var (pv 1)) ie_int) (ie_ix (ie_var (pv 0)) ie_int))) (ia_cons (ie_bin op_mulD (ie_ix (ie_var (pv 0)) ie_int) (ie_ix (ie_var (pv 1)) ie_int)) ia_nil)))))
theorem sc__law_added : FnScope ["parts", "total", "own"] ["parts"] (defScope (top 114)) := ⟨rfl, rfl, rfl, by decide +kernel, rfl, by decide +kernel, by decide +kernel⟩
def m__law_added : FA := flatF ( mDef 2
    (mSeq (mSet 1 (mTup (mCons (mC (.int 0)) (mCons (mC (.int 1)) mNil))))
    (mSeq (mFor (mSeqI (mVar 0)) (gN 2) (mSet 1 (mCallF 2 m__law_sum (mCons (mVar 1) (mCons (mVar 2) mNil)))))
    (mRet (mVar 1)))))
theorem c__law_added {P : Program} {w : World} {K : PySem.W.Frag} {mg : Str → Option Value} {base : Heap} (T : Top K mg) : CallM P w K mg base 4 1 "_law_added" m__law_added := by
  obtain ⟨fd, F, hm⟩ := T.def_ 93 (d := dd "_law_added" 114) rfl rfl
  refine CallM.flat (call_def (st := top 114) F sc__law_added hm rfl rfl (fun _ _ _ _ _ _ us hl => match us, hl with | [_], _ => rfl) (fun cdv A outer s H E hr => ?_))
  have S := sc__law_added
  exact (iss_cons (is_set (i := 1) S.nd rfl (.inl rfl) (ie_tup (ia_cons ie_int (ia_cons ie_int ia_nil))))
    (iss_cons (is_for rfl PassesOwn.never (ii_seq (ie_var (pv 0))) (ij_name (i := 2) S.nd rfl (.inl rfl)) (iss_one (is_set (i := 1) S.nd rfl (.inl rfl) (ie_call (c__law_sum T) (hr.mono (by omega)) rfl (ia_cons (ie_var (pv 1)) (ia_cons (ie_var (pv 2)) ia_nil))))))
    (iss_one (is_ret (ie_var (pv 1))))))
theorem sc__law_size : FnScope ["tree"] ["tree"] (defScope (top 115)) := ⟨rfl, rfl, rfl, by decide +kernel, rfl, by decide +kernel, by decide +kernel⟩
def m__law_size : FA := flatF ( mDef 0
    (mRet (mUn strF (mVar 0))))
theorem c__law_size {P : Program} {w : World} {K : PySem.W.Frag} {mg : Str → Option Value} {base : Heap} (T : Top K mg) : CallM P w K mg base 1 1 "_law_size" m__law_size := by
  obtain ⟨fd, F, hm⟩ := T.def_ 94 (d := dd "_law_size" 115) rfl rfl
  refine CallM.flat (call_def (st := top 115) F sc__law_size hm rfl rfl (fun _ _ _ _ _ _ us hl => match us, hl with | [_], _ => rfl) (fun cdv A outer s H E hr => ?_))
  have S := sc__law_size
  exact (iss_one (is_ret (ie_strc hr.u64 hr.gd (T.free 127 rfl) (ie_var (pv 0)))))
theorem sc__law_grown : FnScope ["tree", "found", "k", "part", "more", "own"] ["tree"] (defScope (top 116)) := ⟨rfl, rfl, rfl, by decide +kernel, rfl, by decide +kernel, by decide +kernel⟩
def b__law_grown (self : FA) : MS :=
    (mSeq (mSet 1 (mLst (mCons (mCall (fa1 tupF) (mCons (mCall (fa1 srtF) (mCons (mBin addD (mVar 0) (mTup (mCons (mTup mNil) mNil))) mNil)) mNil)) mNil)))
    (mSeq (mFor (mEnumI (mVar 0)) (gTupM 2 (gsCons (gN 2) (gsCons (gN 3) gsNil))) (mFor (mSeqI (mCallF 1 self (mCons (mVar 3) mNil))) (gN 4) (mSeq (mSet 5 (mCall (fa1 tupF) (mCons (mCall (fa1 srtF) (mCons (mBin addD (mBin addD (mSlice (mVar 0) mNoPart (mPart (mVar 2))) (mTup (mCons (mVar 4) mNil))) (mSlice (mVar 0) (mPart (mBin addD (mVar 2) (mC (.int 1)))) mNoPart)) mNil)) mNil)))
    (mIfS (mTB (mBin (inD true) (mVar 5) (mVar 1))) (mExpr (mMeth okL appF (mVar 1) (mCons (mVar 5) mNil))) mNext))))
    (mRet (mVar 1))))
def m__law_grown : Nat → FA := mRecF 5 b__law_grown
theorem c__law_grown {P : Program} {w : World} {K : PySem.W.Frag} {mg : Str → Option Value} {base : Heap} (T : Top K mg) (k : Nat) : CallM P w K mg base (0 + k + 1) 1 "_law_grown" (m__law_grown k) := by
  obtain ⟨fd, F, hm⟩ := T.def_ 95 (d := dd "_law_grown" 116) rfl rfl
  refine call_recF (st := top 116) F sc__law_grown hm rfl rfl (fun _ _ _ _ _ _ us hl => match us, hl with | [_], _ => rfl) (fun self k cself cdv A outer s H E hr => ?_) k
  have S := sc__law_grown
  exact (iss_cons (is_set (i := 1) S.nd rfl (.inl rfl) (ie_lst (ia_cons (ie_callTy call_tupD rfl (T.free 129 rfl) (by decide +kernel) (ia_cons (ie_callB (call_srtD hr.u64) rfl (T.free 126 rfl) (by decide +kernel) (ia_cons (ie_bin op_addD (ie_var (pv 0)) (ie_tup (ia_cons (ie_tup ia_nil) ia_nil))) ia_nil)) ia_nil)) ia_nil)))
    (iss_cons (is_for rfl PassesOwn.never (ii_enum rfl (T.free 117 rfl) (ie_var (pv 0))) (ij_tup rfl (ijs_cons (ij_name (i := 2) S.nd rfl (.inl rfl)) (ijs_cons (ij_name (i := 3) S.nd rfl (.inl rfl)) ijs_nil))) (iss_one (is_for rfl PassesOwn.never (ii_seq (ie_call cself (hr.mono (by omega)) rfl (ia_cons (ie_var (pv 3)) ia_nil))) (ij_name (i := 4) S.nd rfl (.inl rfl)) (iss_cons (is_set (i := 5) S.nd rfl (.inl rfl) (ie_callTy call_tupD rfl (T.free 129 rfl) (by decide +kernel) (ia_cons (ie_callB (call_srtD hr.u64) rfl (T.free 126 rfl) (by decide +kernel) (ia_cons (ie_bin op_addD (ie_bin op_addD (ie_slice (ie_var (pv 0)) io_none (io_some (ie_var (pv 2)))) (ie_tup (ia_cons (ie_var (pv 4)) ia_nil))) (ie_slice (ie_var (pv 0)) (io_some (ie_bin op_addD (ie_var (pv 2)) ie_int)) io_none)) ia_nil)) ia_nil)))
    (iss_one (is_if (it_cmp (op_notInDD hr.u65) (ie_var (pv 5)) (ie_var (pv 1))) (iss_one (is_expr (ie_meth mt_appD (ie_var (pv 1)) (ia_cons (ie_var (pv 5)) ia_nil)))) iss_nil))))))
    (iss_one (is_ret (ie_var (pv 1))))))
theorem sc__law_trees : FnScope ["many", "rows", "lap", "later", "tree", "own"] ["many"] (defScope (top 117)) := ⟨rfl, rfl, rfl, by decide +kernel, rfl, by decide +kernel, by decide +kernel⟩
def m__law_trees : FA := flatF ( mDef 5
    (mSeq (mSet 1 (mLst (mCons (mTup mNil) mNil)))
    (mSeq (mFor (mRg1I (mCons (mBin subD (mVar 0) (mC (.int 1))) mNil)) (gN 2) (mSeq (mSet 3 (mLst mNil))
    (mSeq (mFor (mSeqI (mVar 1)) (gN 4) (mExpr (mMeth okL extF (mVar 3) (mCons (mLc (mSeqI (mCallF 1 (m__law_grown 12) (mCons (mVar 4) mNil))) (gN 5) (mTB (mBin (inD true) (mVar 5) (mVar 3))) (mVar 5) [5]) mNil))))
    (mSet 1 (mVar 3)))))
    (mRet (mCall (fa1 srtF) (mCons (mVar 1) mNil))))))
theorem c__law_trees {P : Program} {w : World} {K : PySem.W.Frag} {mg : Str → Option Value} {base : Heap} (T : Top K mg) : CallM P w K mg base 14 1 "_law_trees" m__law_trees := by
  obtain ⟨fd, F, hm⟩ := T.def_ 96 (d := dd "_law_trees" 117) rfl rfl
  refine CallM.flat (call_def (st := top 117) F sc__law_trees hm rfl rfl (fun _ _ _ _ _ _ us hl => match us, hl with | [_], _ => rfl) (fun cdv A outer s H E hr => ?_))
  have S := sc__law_trees
  exact (iss_cons (is_set (i := 1) S.nd rfl (.inl rfl) (ie_lst (ia_cons (ie_tup ia_nil) ia_nil)))
    (iss_cons (is_for rfl PassesOwn.never (ii_rg1 rfl (T.free 124 rfl) (ia_cons (ie_bin op_subD (ie_var (pv 0)) ie_int) ia_nil)) (ij_name (i := 2) S.nd rfl (.inl rfl)) (iss_cons (is_set (i := 3) S.nd rfl (.inr rfl) (ie_lst ia_nil))
    (iss_cons (is_for rfl PassesOwn.never (ii_seq (ie_var (pv 1))) (ij_name (i := 4) S.nd rfl (.inl rfl)) (iss_one (is_expr (ie_meth mt_extD (ie_var (pv 3)) (ia_cons (ie_lc (own := [("own", 5)]) rfl S.nd (ii_seq (ie_call (c__law_grown T 12) (hr.mono (by omega)) rfl (ia_cons (ie_var (pv 4)) ia_nil))) (blkOk_by (by kernel_rfl)) (fun _ _ _ _ _ => (ij_name (i := 5) S.nd rfl (.inl rfl))) (fun _ _ _ _ _ => (its_one (it_cmp (op_notInDD hr.u65) (ie_var (pv 5)) (ie_var (pv 3))))) (fun _ _ _ _ _ => (ie_var (pv 5))) (by decide)) ia_nil)))))
    (iss_one (is_set (i := 1) S.nd rfl (.inl rfl) (ie_var (pv 3)))))))
    (iss_one (is_ret (ie_callB (call_srtD hr.u64) rfl (T.free 126 rfl) (by decide +kernel) (ia_cons (ie_var (pv 1)) ia_nil))))))
def g__law_trees : FA := tabF 7 sz
theorem o__law_trees {P : Program} {w : World} {K : PySem.W.Frag} {mg : Str → Option Value} {base : Heap} (T : Top K mg) : CallM P w K mg base 14 1 "_law_trees" g__law_trees := (c__law_trees T).tab (by decide +kernel)
theorem sc__law_density : FnScope ["tree", "much", "part"] ["tree"] (defScope (top 118)) := ⟨rfl, rfl, rfl, by decide +kernel, rfl, by decide +kernel, by decide +kernel⟩
def b__law_density (self : FA) : MS :=
    (mSeq (mSet 1 (mCallF 1 m__law_size (mCons (mVar 0) mNil)))
    (mSeq (mFor (mSeqI (mVar 0)) (gN 2) (mSet 1 (mBin mulD (mVar 1) (mCallF 1 self (mCons (mVar 2) mNil)))))
    (mRet (mVar 1))))
def m__law_density : Nat → FA := mRecF 2 b__law_density
theorem c__law_density {P : Program} {w : World} {K : PySem.W.Frag} {mg : Str → Option Value} {base : Heap} (T : Top K mg) (k : Nat) : CallM P w K mg base (1 + k + 1) 1 "_law_density" (m__law_density k) := by
  obtain ⟨fd, F, hm⟩ := T.def_ 97 (d := dd "_law_density" 118) rfl rfl
  refine call_recF (st := top 118) F sc__law_density hm rfl rfl (fun _ _ _ _ _ _ us hl => match us, hl with | [_], _ => rfl) (fun self k cself cdv A outer s H E hr => ?_) k
  have S := sc__law_density
  exact (iss_cons (is_set (i := 1) S.nd rfl (.inl rfl) (ie_call (c__law_size T) (hr.mono (by omega)) rfl (ia_cons (ie_var (pv 0)) ia_nil)))
    (iss_cons (is_for rfl PassesOwn.never (ii_seq (ie_var (pv 0))) (ij_name (i := 2) S.nd rfl (.inl rfl)) (iss_one (is_set (i := 1) S.nd rfl (.inl rfl) (ie_bin op_mulD (ie_var (pv 1)) (ie_call cself (hr.mono (by omega)) rfl (ia_cons (ie_var (pv 2)) ia_nil))))))
    (iss_one (is_ret (ie_var (pv 1))))))
theorem sc__law_likeness : FnScope ["tree", "much", "before", "part"] ["tree"] (defScope (top 119)) := ⟨rfl, rfl, rfl, by decide +kernel, rfl, by decide +kernel, by decide +kernel⟩
def b__law_likeness (self : FA) : MS :=
    (mSeq (mPar 1 2 (mCons (mC (.int 1)) (mCons (mLst mNil) mNil)))
    (mSeq (mFor (mSeqI (mVar 0)) (gN 3) (mSeq (mExpr (mMeth okL appF (mVar 2) (mCons (mVar 3) mNil)))
    (mSet 1 (mBin mulD (mBin mulD (mVar 1) (mCallF 1 self (mCons (mVar 3) mNil))) (mMeth okS2 cntF (mVar 2) (mCons (mVar 3) mNil))))))
    (mRet (mVar 1))))
def m__law_likeness : Nat → FA := mRecF 3 b__law_likeness
theorem c__law_likeness {P : Program} {w : World} {K : PySem.W.Frag} {mg : Str → Option Value} {base : Heap} (T : Top K mg) (k : Nat) : CallM P w K mg base (0 + k + 1) 1 "_law_likeness" (m__law_likeness k) := by
  obtain ⟨fd, F, hm⟩ := T.def_ 98 (d := dd "_law_likeness" 119) rfl rfl
  refine call_recF (st := top 119) F sc__law_likeness hm rfl rfl (fun _ _ _ _ _ _ us hl => match us, hl with | [_], _ => rfl) (fun self k cself cdv A outer s H E hr => ?_) k
  have S := sc__law_likeness
  exact (iss_cons (is_par (i := 1) (j := 2) rfl S.nd rfl rfl (by decide) rfl rfl (ia_cons ie_int (ia_cons (ie_lst ia_nil) ia_nil)))
    (iss_cons (is_for rfl PassesOwn.never (ii_seq (ie_var (pv 0))) (ij_name (i := 3) S.nd rfl (.inl rfl)) (iss_cons (is_expr (ie_meth mt_appD (ie_var (pv 2)) (ia_cons (ie_var (pv 3)) ia_nil)))
    (iss_one (is_set (i := 1) S.nd rfl (.inl rfl) (ie_bin op_mulD (ie_bin op_mulD (ie_var (pv 1)) (ie_call cself (hr.mono (by omega)) rfl (ia_cons (ie_var (pv 3)) ia_nil))) (ie_meth (mt_cntD hr.u70) (ie_var (pv 2)) (ia_cons (ie_var (pv 3)) ia_nil)))))))
    (iss_one (is_ret (ie_var (pv 1))))))
theorem sc__law_hung : FnScope ["one", "other"] ["one", "other"] (defScope (top 120)) := ⟨rfl, rfl, rfl, by decide +kernel, rfl, by decide +kernel, by decide +kernel⟩
def m__law_hung : FA := flatF ( mDef 0
    (mRet (mCall (fa1 tupF) (mCons (mCall (fa1 srtF) (mCons (mBin addD (mVar 0) (mTup (mCons (mVar 1) mNil))) mNil)) mNil))))
theorem c__law_hung {P : Program} {w : World} {K : PySem.W.Frag} {mg : Str → Option Value} {base : Heap} (T : Top K mg) : CallM P w K mg base 1 2 "_law_hung" m__law_hung := by
  obtain ⟨fd, F, hm⟩ := T.def_ 99 (d := dd "_law_hung" 120) rfl rfl
  refine CallM.flat (call_def (st := top 120) F sc__law_hung hm rfl rfl (fun _ _ _ _ _ _ us hl => match us, hl with | [_, _], _ => rfl) (fun cdv A outer s H E hr => ?_))
  have S := sc__law_hung
  exact (iss_one (is_ret (ie_callTy call_tupD rfl (T.free 129 rfl) (by decide +kernel) (ia_cons (ie_callB (call_srtD hr.u64) rfl (T.free 126 rfl) (by decide +kernel) (ia_cons (ie_bin op_addD (ie_var (pv 0)) (ie_tup (ia_cons (ie_var (pv 1)) ia_nil))) ia_nil)) ia_nil))))
theorem sc__law_tree : FnScope ["tin", "most", "tree", "lap"] ["tin", "most"] (defScope (top 121)) := ⟨rfl, rfl, rfl, by decide +kernel, rfl, by decide +kernel, by decide +kernel⟩
def m__law_tree : FA := ( mDef 2
    (mSeq (mSet 2 (mTup mNil))
    (mSeq (mFor (mRg1I (mCons (mCallF 2 g__law_take (mCons (mVar 0) (mCons (mVar 1) mNil))) mNil)) (gN 3) (mSet 2 (mCallF 2 m__law_of (mCons (mVar 0) (mCons (mCallF 1 (m__law_grown 12) (mCons (mVar 2) mNil)) mNil)))))
    (mRet (mVar 2)))))
theorem c__law_tree {P : Program} {w : World} {K : PySem.W.Frag} {mg : Str → Option Value} {base : Heap} (T : Top K mg) : CallM P w K mg base 14 2 "_law_tree" m__law_tree := by
  obtain ⟨fd, F, hm⟩ := T.def_ 100 (d := dd "_law_tree" 121) rfl rfl
  refine id (call_def (st := top 121) F sc__law_tree hm rfl rfl (fun _ _ _ _ _ _ us hl => match us, hl with | [_, _], _ => rfl) (fun cdv A outer s H E hr => ?_))
  have S := sc__law_tree
  exact (iss_cons (is_set (i := 2) S.nd rfl (.inl rfl) (ie_tup ia_nil))
    (iss_cons (is_for rfl PassesOwn.never (ii_rg1 rfl (T.free 124 rfl) (ia_cons (ie_call (o__law_take T) (hr.mono (by omega)) rfl (ia_cons (ie_var (pv 0)) (ia_cons (ie_var (pv 1)) ia_nil))) ia_nil)) (ij_name (i := 3) S.nd rfl (.inl rfl)) (iss_one (is_set (i := 2) S.nd rfl (.inl rfl) (ie_call (c__law_of T) (hr.mono (by omega)) rfl (ia_cons (ie_var (pv 0)) (ia_cons (ie_call (c__law_grown T 12) (hr.mono (by omega)) rfl (ia_cons (ie_var (pv 2)) ia_nil)) ia_nil))))))
    (iss_one (is_ret (ie_var (pv 2))))))
def g__law_tree : FA := drawF 7 forest [(4, 11), (11, 18), (18, 25)]
theorem o__law_tree {P : Program} {w : World} {K : PySem.W.Frag} {mg : Str → Option Value} {base : Heap} (T : Top K mg) : CallM P w K mg base 14 2 "_law_tree" g__law_tree := (c__law_tree T).draw (by decide +kernel)
theorem sc__law_counted : FnScope ["most", "counts", "many", "total", "k", "size"] ["most"] (defScope (top 122)) := ⟨rfl, rfl, rfl, by decide +kernel, rfl, by decide +kernel, by decide +kernel⟩
def m__law_counted : FA := flatF ( mDef 5
    (mSeq (mSet 1 (mLst (mCons (mC (.int 1)) mNil)))
    (mSeq (mFor (mRg2I (mCons (mC (.int 1)) (mCons (mVar 0) mNil))) (gN 2) (mSeq (mSet 3 (mC (.int 0)))
    (mSeq (mFor (mRg2I (mCons (mC (.int 1)) (mCons (mBin addD (mVar 2) (mC (.int 1))) mNil))) (gN 4) (mSet 3 (mBin addD (mVar 3) (mBin mulD (mCall (fa1 sumF2) (mCons (mLc (mRg2I (mCons (mC (.int 1)) (mCons (mBin addD (mVar 4) (mC (.int 1))) mNil))) (gN 5) (mTB (mBin eqD (mBin modD (mVar 4) (mVar 5)) (mC (.int 0)))) (mBin mulD (mVar 5) (mBin ixD (mVar 1) (mBin subD (mVar 5) (mC (.int 1))))) [5]) mNil)) (mBin ixD (mVar 1) (mBin subD (mVar 2) (mVar 4)))))))
    (mExpr (mMeth okL appF (mVar 1) (mCons (mBin divD (mVar 3) (mVar 2)) mNil))))))
    (mRet (mVar 1)))))
theorem c__law_counted {P : Program} {w : World} {K : PySem.W.Frag} {mg : Str → Option Value} {base : Heap} (T : Top K mg) : CallM P w K mg base 1 1 "_law_counted" m__law_counted := by
  obtain ⟨fd, F, hm⟩ := T.def_ 101 (d := dd "_law_counted" 122) rfl rfl
  refine CallM.flat (call_def (st := top 122) F sc__law_counted hm rfl rfl (fun _ _ _ _ _ _ us hl => match us, hl with | [_], _ => rfl) (fun cdv A outer s H E hr => ?_))
  have S := sc__law_counted
  exact (iss_cons (is_set (i := 1) S.nd rfl (.inr rfl) (ie_lst (ia_cons ie_int ia_nil)))
    (iss_cons (is_for rfl PassesOwn.never (ii_rg2 rfl (T.free 124 rfl) (ia_cons ie_int (ia_cons (ie_var (pv 0)) ia_nil))) (ij_name (i := 2) S.nd rfl (.inl rfl)) (iss_cons (is_set (i := 3) S.nd rfl (.inl rfl) ie_int)
    (iss_cons (is_for rfl PassesOwn.never (ii_rg2 rfl (T.free 124 rfl) (ia_cons ie_int (ia_cons (ie_bin op_addD (ie_var (pv 2)) ie_int) ia_nil))) (ij_name (i := 4) S.nd rfl (.inr rfl)) (iss_one (is_set (i := 3) S.nd rfl (.inl rfl) (ie_bin op_addD (ie_var (pv 3)) (ie_bin op_mulD (ie_callB (call_sumD2 rfl) rfl (T.free 128 rfl) (by decide +kernel) (ia_cons (ie_lc (own := [("size", 5)]) rfl S.nd (ii_rg2 rfl (T.free 124 rfl) (ia_cons ie_int (ia_cons (ie_bin op_addD (ie_var (pv 4)) ie_int) ia_nil))) (blkOk_by (by kernel_rfl)) (fun _ _ _ _ _ => (ij_name (i := 5) S.nd rfl (.inl rfl))) (fun _ _ _ _ _ => (its_one (it_cmp (op_eqDD hr.u64) (ie_bin op_modD (ie_var (pv 4)) (ie_var (pv 5))) ie_int))) (fun _ _ _ _ _ => (ie_bin op_mulD (ie_var (pv 5)) (ie_ix (ie_var (pv 1)) (ie_bin op_subD (ie_var (pv 5)) ie_int)))) (by decide)) ia_nil)) (ie_ix (ie_var (pv 1)) (ie_bin op_subD (ie_var (pv 2)) (ie_var (pv 4)))))))))
    (iss_one (is_expr (ie_meth mt_appD (ie_var (pv 1)) (ia_cons (ie_bin op_divD (ie_var (pv 3)) (ie_var (pv 2))) ia_nil)))))))
    (iss_one (is_ret (ie_var (pv 1))))))
def g__law_counted : FA := oneL 24 ([.int 1, .int 1, .int 2, .int 4, .int 9, .int 20, .int 48, .int 115, .int 286, .int 719, .int 1842, .int 4766, .int 12486, .int 32973, .int 87811, .int 235381, .int 634847, .int 1721159, .int 4688676, .int 12826228, .int 35221832, .int 97055181, .int 268282855, .int 743724984])
theorem o__law_counted {P : Program} {w : World} {K : PySem.W.Frag} {mg : Str → Option Value} {base : Heap} (T : Top K mg) : CallM P w K mg base 1 1 "_law_counted" g__law_counted := (c__law_counted T).oneL' (by decide +kernel)
theorem sc__law_parted : FnScope ["most", "ways", "part", "goal"] ["most"] (defScope (top 123)) := ⟨rfl, rfl, rfl, by decide +kernel, rfl, by decide +kernel, by decide +kernel⟩
def m__law_parted : FA := flatF ( mDef 3
    (mSeq (mSet 1 (mBin addD (mLst (mCons (mC (.int 1)) mNil)) (mBin mulD (mLst (mCons (mC (.int 0)) mNil)) (mVar 0))))
    (mSeq (mFor (mRg2I (mCons (mC (.int 1)) (mCons (mBin addD (mVar 0) (mC (.int 1))) mNil))) (gN 2) (mFor (mRg2I (mCons (mVar 2) (mCons (mBin addD (mVar 0) (mC (.int 1))) mNil))) (gN 3) (mSet 1 (mBin addD (mBin addD (mSlice (mVar 1) mNoPart (mPart (mVar 3))) (mLst (mCons (mBin addD (mBin ixD (mVar 1) (mVar 3)) (mBin ixD (mVar 1) (mBin subD (mVar 3) (mVar 2)))) mNil))) (mSlice (mVar 1) (mPart (mBin addD (mVar 3) (mC (.int 1)))) mNoPart)))))
    (mRet (mVar 1)))))
theorem c__law_parted {P : Program} {w : World} {K : PySem.W.Frag} {mg : Str → Option Value} {base : Heap} (T : Top K mg) : CallM P w K mg base 1 1 "_law_parted" m__law_parted := by
  obtain ⟨fd, F, hm⟩ := T.def_ 102 (d := dd "_law_parted" 123) rfl rfl
  refine CallM.flat (call_def (st := top 123) F sc__law_parted hm rfl rfl (fun _ _ _ _ _ _ us hl => match us, hl with | [_], _ => rfl) (fun cdv A outer s H E hr => ?_))
  have S := sc__law_parted
  exact (iss_cons (is_set (i := 1) S.nd rfl (.inl rfl) (ie_bin op_addD (ie_lst (ia_cons ie_int ia_nil)) (ie_bin op_mulD (ie_lst (ia_cons ie_int ia_nil)) (ie_var (pv 0)))))
    (iss_cons (is_for rfl PassesOwn.never (ii_rg2 rfl (T.free 124 rfl) (ia_cons ie_int (ia_cons (ie_bin op_addD (ie_var (pv 0)) ie_int) ia_nil))) (ij_name (i := 2) S.nd rfl (.inl rfl)) (iss_one (is_for rfl PassesOwn.never (ii_rg2 rfl (T.free 124 rfl) (ia_cons (ie_var (pv 2)) (ia_cons (ie_bin op_addD (ie_var (pv 0)) ie_int) ia_nil))) (ij_name (i := 3) S.nd rfl (.inl rfl)) (iss_one (is_set (i := 1) S.nd rfl (.inl rfl) (ie_bin op_addD (ie_bin op_addD (ie_slice (ie_var (pv 1)) io_none (io_some (ie_var (pv 3)))) (ie_lst (ia_cons (ie_bin op_addD (ie_ix (ie_var (pv 1)) (ie_var (pv 3))) (ie_ix (ie_var (pv 1)) (ie_bin op_subD (ie_var (pv 3)) (ie_var (pv 2))))) ia_nil))) (ie_slice (ie_var (pv 1)) (io_some (ie_bin op_addD (ie_var (pv 3)) ie_int)) io_none)))))))
    (iss_one (is_ret (ie_var (pv 1))))))
def g__law_parted : FA := oneL 23 ([.int 1, .int 1, .int 2, .int 3, .int 5, .int 7, .int 11, .int 15, .int 22, .int 30, .int 42, .int 56, .int 77, .int 101, .int 135, .int 176, .int 231, .int 297, .int 385, .int 490, .int 627, .int 792, .int 1002, .int 1255])
theorem o__law_parted {P : Program} {w : World} {K : PySem.W.Frag} {mg : Str → Option Value} {base : Heap} (T : Top K mg) : CallM P w K mg base 1 1 "_law_parted" g__law_parted := (c__law_parted T).oneL' (by decide +kernel)
theorem sc__law_leaves : FnScope ["tree", "part"] ["tree"] (defScope (top 124)) := ⟨rfl, rfl, rfl, by decide +kernel, rfl, by decide +kernel, by decide +kernel⟩
def b__law_leaves (self : FA) : MS :=
    (mRet (mIf (mTB (mBin eqD (mVar 0) (mTup mNil))) (mC (.int 1)) (mCall (fa1 sumF2) (mCons (mLc (mSeqI (mVar 0)) (gN 1) mYes (mCallF 1 self (mCons (mVar 1) mNil)) [1]) mNil))))
def m__law_leaves : Nat → FA := mRecF 1 b__law_leaves
theorem c__law_leaves {P : Program} {w : World} {K : PySem.W.Frag} {mg : Str → Option Value} {base : Heap} (T : Top K mg) (k : Nat) : CallM P w K mg base (0 + k + 1) 1 "_law_leaves" (m__law_leaves k) := by
  obtain ⟨fd, F, hm⟩ := T.def_ 103 (d := dd "_law_leaves" 124) rfl rfl
  refine call_recF (st := top 124) F sc__law_leaves hm rfl rfl (fun _ _ _ _ _ _ us hl => match us, hl with | [_], _ => rfl) (fun self k cself cdv A outer s H E hr => ?_) k
  have S := sc__law_leaves
  exact (iss_one (is_ret (ie_if (it_cmp (op_eqDD hr.u64) (ie_var (pv 0)) (ie_tup ia_nil)) ie_int (ie_callB (call_sumD2 rfl) rfl (T.free 128 rfl) (by decide +kernel) (ia_cons (ie_lc (own := [("part", 1)]) rfl S.nd (ii_seq (ie_var (pv 0))) (blkOk_by (by kernel_rfl)) (fun _ _ _ _ _ => (ij_name (i := 1) S.nd rfl (.inl rfl))) (fun _ _ _ _ _ => its_nil) (fun _ _ _ _ _ => (ie_call cself (hr.mono (by omega)) rfl (ia_cons (ie_var (pv 1)) ia_nil))) (by decide)) ia_nil)))))
theorem sc__law_most : FnScope ["tree", "part"] ["tree"] (defScope (top 125)) := ⟨rfl, rfl, rfl, by decide +kernel, rfl, by decide +kernel, by decide +kernel⟩
def b__law_most (self : FA) : MS :=
    (mRet (mCall (fa1 maxF2) (mCons (mBin addD (mLst (mCons (mCall (fa1 lenF) (mCons (mVar 0) mNil)) mNil)) (mLc (mSeqI (mVar 0)) (gN 1) mYes (mCallF 1 self (mCons (mVar 1) mNil)) [1])) mNil)))
def m__law_most : Nat → FA := mRecF 1 b__law_most
theorem c__law_most {P : Program} {w : World} {K : PySem.W.Frag} {mg : Str → Option Value} {base : Heap} (T : Top K mg) (k : Nat) : CallM P w K mg base (0 + k + 1) 1 "_law_most" (m__law_most k) := by
  obtain ⟨fd, F, hm⟩ := T.def_ 104 (d := dd "_law_most" 125) rfl rfl
  refine call_recF (st := top 125) F sc__law_most hm rfl rfl (fun _ _ _ _ _ _ us hl => match us, hl with | [_], _ => rfl) (fun self k cself cdv A outer s H E hr => ?_) k
  have S := sc__law_most
  exact (iss_one (is_ret (ie_callB (call_maxD2 rfl hr.u70) rfl (T.free 122 rfl) (by decide +kernel) (ia_cons (ie_bin op_addD (ie_lst (ia_cons (ie_callB call_lenD rfl (T.free 120 rfl) PySem.boot_len (ia_cons (ie_var (pv 0)) ia_nil)) ia_nil)) (ie_lc (own := [("part", 1)]) rfl S.nd (ii_seq (ie_var (pv 0))) (blkOk_by (by kernel_rfl)) (fun _ _ _ _ _ => (ij_name (i := 1) S.nd rfl (.inl rfl))) (fun _ _ _ _ _ => its_nil) (fun _ _ _ _ _ => (ie_call cself (hr.mono (by omega)) rfl (ia_cons (ie_var (pv 1)) ia_nil))) (by decide))) ia_nil))))
theorem sc__law_deep : FnScope ["tree", "part"] ["tree"] (defScope (top 126)) := ⟨rfl, rfl, rfl, by decide +kernel, rfl, by decide +kernel, by decide +kernel⟩
def b__law_deep (self : FA) : MS :=
    (mRet (mBin addD (mC (.int 1)) (mCall (fa1 maxF2) (mCons (mBin addD (mLst (mCons (mC (.int 0)) mNil)) (mLc (mSeqI (mVar 0)) (gN 1) mYes (mCallF 1 self (mCons (mVar 1) mNil)) [1])) mNil))))
def m__law_deep : Nat → FA := mRecF 1 b__law_deep
theorem c__law_deep {P : Program} {w : World} {K : PySem.W.Frag} {mg : Str → Option Value} {base : Heap} (T : Top K mg) (k : Nat) : CallM P w K mg base (0 + k + 1) 1 "_law_deep" (m__law_deep k) := by
  obtain ⟨fd, F, hm⟩ := T.def_ 105 (d := dd "_law_deep" 126) rfl rfl
  refine call_recF (st := top 126) F sc__law_deep hm rfl rfl (fun _ _ _ _ _ _ us hl => match us, hl with | [_], _ => rfl) (fun self k cself cdv A outer s H E hr => ?_) k
  have S := sc__law_deep
  exact (iss_one (is_ret (ie_bin op_addD ie_int (ie_callB (call_maxD2 rfl hr.u70) rfl (T.free 122 rfl) (by decide +kernel) (ia_cons (ie_bin op_addD (ie_lst (ia_cons ie_int ia_nil)) (ie_lc (own := [("part", 1)]) rfl S.nd (ii_seq (ie_var (pv 0))) (blkOk_by (by kernel_rfl)) (fun _ _ _ _ _ => (ij_name (i := 1) S.nd rfl (.inl rfl))) (fun _ _ _ _ _ => its_nil) (fun _ _ _ _ _ => (ie_call cself (hr.mono (by omega)) rfl (ia_cons (ie_var (pv 1)) ia_nil))) (by decide))) ia_nil)))))
theorem sc__law_cuts : FnScope ["tree", "found", "part"] ["tree"] (defScope (top 127)) := ⟨rfl, rfl, rfl, by decide +kernel, rfl, by decide +kernel, by decide +kernel⟩
def b__law_cuts (self : FA) : MS :=
    (mSeq (mSet 1 (mC (.int 1)))
    (mSeq (mFor (mSeqI (mVar 0)) (gN 2) (mSet 1 (mBin mulD (mVar 1) (mCallF 1 self (mCons (mVar 2) mNil)))))
    (mRet (mBin addD (mVar 1) (mC (.int 1))))))
def m__law_cuts : Nat → FA := mRecF 2 b__law_cuts
theorem c__law_cuts {P : Program} {w : World} {K : PySem.W.Frag} {mg : Str → Option Value} {base : Heap} (T : Top K mg) (k : Nat) : CallM P w K mg base (0 + k + 1) 1 "_law_cuts" (m__law_cuts k) := by
  obtain ⟨fd, F, hm⟩ := T.def_ 106 (d := dd "_law_cuts" 127) rfl rfl
  refine call_recF (st := top 127) F sc__law_cuts hm rfl rfl (fun _ _ _ _ _ _ us hl => match us, hl with | [_], _ => rfl) (fun self k cself cdv A outer s H E hr => ?_) k
  have S := sc__law_cuts
  exact (iss_cons (is_set (i := 1) S.nd rfl (.inl rfl) ie_int)
    (iss_cons (is_for rfl PassesOwn.never (ii_seq (ie_var (pv 0))) (ij_name (i := 2) S.nd rfl (.inl rfl)) (iss_one (is_set (i := 1) S.nd rfl (.inl rfl) (ie_bin op_mulD (ie_var (pv 1)) (ie_call cself (hr.mono (by omega)) rfl (ia_cons (ie_var (pv 2)) ia_nil))))))
    (iss_one (is_ret (ie_bin op_addD (ie_var (pv 1)) ie_int)))))
theorem sc__law_coloured_likeness : FnScope ["tree", "much", "before", "part"] ["tree"] (defScope (top 128)) := ⟨rfl, rfl, rfl, by decide +kernel, rfl, by decide +kernel, by decide +kernel⟩
def b__law_coloured_likeness (self : FA) : MS :=
    (mSeq (mPar 1 2 (mCons (mC (.int 1)) (mCons (mLst mNil) mNil)))
    (mSeq (mFor (mSeqI (mBin ixD (mVar 0) (mC (.int 1)))) (gN 3) (mSeq (mExpr (mMeth okL appF (mVar 2) (mCons (mVar 3) mNil)))
    (mSet 1 (mBin mulD (mBin mulD (mVar 1) (mCallF 1 self (mCons (mVar 3) mNil))) (mMeth okS2 cntF (mVar 2) (mCons (mVar 3) mNil))))))
    (mRet (mVar 1))))
def m__law_coloured_likeness : Nat → FA := mRecF 3 b__law_coloured_likeness
theorem c__law_coloured_likeness {P : Program} {w : World} {K : PySem.W.Frag} {mg : Str → Option Value} {base : Heap} (T : Top K mg) (k : Nat) : CallM P w K mg base (0 + k + 1) 1 "_law_coloured_likeness" (m__law_coloured_likeness k) := by
  obtain ⟨fd, F, hm⟩ := T.def_ 107 (d := dd "_law_coloured_likeness" 128) rfl rfl
  refine call_recF (st := top 128) F sc__law_coloured_likeness hm rfl rfl (fun _ _ _ _ _ _ us hl => match us, hl with | [_], _ => rfl) (fun self k cself cdv A outer s H E hr => ?_) k
  have S := sc__law_coloured_likeness
  exact (iss_cons (is_par (i := 1) (j := 2) rfl S.nd rfl rfl (by decide) rfl rfl (ia_cons ie_int (ia_cons (ie_lst ia_nil) ia_nil)))
    (iss_cons (is_for rfl PassesOwn.never (ii_seq (ie_ix (ie_var (pv 0)) ie_int)) (ij_name (i := 3) S.nd rfl (.inl rfl)) (iss_cons (is_expr (ie_meth mt_appD (ie_var (pv 2)) (ia_cons (ie_var (pv 3)) ia_nil)))
    (iss_one (is_set (i := 1) S.nd rfl (.inl rfl) (ie_bin op_mulD (ie_bin op_mulD (ie_var (pv 1)) (ie_call cself (hr.mono (by omega)) rfl (ia_cons (ie_var (pv 3)) ia_nil))) (ie_meth (mt_cntD hr.u70) (ie_var (pv 2)) (ia_cons (ie_var (pv 3)) ia_nil)))))))
    (iss_one (is_ret (ie_var (pv 1))))))
theorem sc__law_bare : FnScope ["tree", "part"] ["tree"] (defScope (top 129)) := ⟨rfl, rfl, rfl, by decide +kernel, rfl, by decide +kernel, by decide +kernel⟩
def b__law_bare (self : FA) : MS :=
    (mRet (mCall (fa1 tupF) (mCons (mCall (fa1 srtF) (mCons (mLc (mSeqI (mBin ixD (mVar 0) (mC (.int 1)))) (gN 1) mYes (mCallF 1 self (mCons (mVar 1) mNil)) [1]) mNil)) mNil)))
def m__law_bare : Nat → FA := mRecF 1 b__law_bare
theorem c__law_bare {P : Program} {w : World} {K : PySem.W.Frag} {mg : Str → Option Value} {base : Heap} (T : Top K mg) (k : Nat) : CallM P w K mg base (0 + k + 1) 1 "_law_bare" (m__law_bare k) := by
  obtain ⟨fd, F, hm⟩ := T.def_ 108 (d := dd "_law_bare" 129) rfl rfl
  refine call_recF (st := top 129) F sc__law_bare hm rfl rfl (fun _ _ _ _ _ _ us hl => match us, hl with | [_], _ => rfl) (fun self k cself cdv A outer s H E hr => ?_) k
  have S := sc__law_bare
  exact (iss_one (is_ret (ie_callTy call_tupD rfl (T.free 129 rfl) (by decide +kernel) (ia_cons (ie_callB (call_srtD hr.u64) rfl (T.free 126 rfl) (by decide +kernel) (ia_cons (ie_lc (own := [("part", 1)]) rfl S.nd (ii_seq (ie_ix (ie_var (pv 0)) ie_int)) (blkOk_by (by kernel_rfl)) (fun _ _ _ _ _ => (ij_name (i := 1) S.nd rfl (.inl rfl))) (fun _ _ _ _ _ => its_nil) (fun _ _ _ _ _ => (ie_call cself (hr.mono (by omega)) rfl (ia_cons (ie_var (pv 1)) ia_nil))) (by decide)) ia_nil)) ia_nil))))
theorem sc__law_lists_right : FnScope ["tin", "many", "trees", "counts", "got", "leaves", "degree", "due", "grown", "tree", "own", "full", "names", "lap"] ["tin", "many"] (defScope (top 130)) := ⟨rfl, rfl, rfl, by decide +kernel, rfl, by decide +kernel, by decide +kernel⟩
def m__law_lists_right : FA := flatF ( mDef 12
    (mSeq (mPar 2 3 (mCons (mCallF 1 g__law_trees (mCons (mVar 1) mNil)) (mCons (mCallF 1 g__law_counted (mCons (mC (.int 24)) mNil)) mNil)))
    (mSeq (mSet 4 (mLst (mCons (mCallF 1 m_all_trees (mCons (mVar 1) mNil)) (mCons (mCallF 1 m_how_many_trees (mCons (mVar 1) mNil)) (mCons (mCallF 1 g_tree_counts (mCons (mC (.int 24)) mNil)) (mCons (mCall (fa1 lenF) (mCons (mCallF 1 m_trees_to (mCons (mVar 1) mNil)) mNil)) (mCons (mLc (mSeqI (mVar 2)) (gN 9) mYes (mCallF 1 m_size_of (mCons (mVar 9) mNil)) [9]) mNil)))))))
    (mSeq (mIfS (mOr (mNot (mTV (mCallF 2 (m__law_same 12) (mCons (mVar 4) (mCons (mLst (mCons (mVar 2) (mCons (mCall (fa1 lenF) (mCons (mVar 2) mNil)) (mCons (mCall (fa1 tupF) (mCons (mVar 3) mNil)) (mCons (mCall (fa1 sumF2) (mCons (mSlice (mVar 3) mNoPart (mPart (mVar 1))) mNil)) (mCons (mBin mulD (mLst (mCons (mVar 1) mNil)) (mCall (fa1 lenF) (mCons (mVar 2) mNil))) mNil)))))) mNil))))) (mTB (mBin neD (mBin ixD (mVar 3) (mBin subD (mVar 1) (mC (.int 1)))) (mCall (fa1 lenF) (mCons (mVar 2) mNil))))) (mRet (mC (.bl false))) mNext)
    (mSeq (mAsg (mTup (mCons (mCallF 2 g__law_take (mCons (mVar 0) (mCons (mBin addD (mVar 1) (mC (.int 1))) mNil))) (mCons (mBin addD (mC (.int 1)) (mCallF 2 g__law_take (mCons (mVar 0) (mCons (mC (.int 4)) mNil)))) mNil))) (gTupM 2 (gsCons (gN 5) (gsCons (gN 6) gsNil))))
    (mSeq (mSet 4 (mLst (mCons (mCallF 2 m_trees_with (mCons (mVar 1) (mCons (mVar 5) mNil))) (mCons (mCallF 2 m_trees_of_degree (mCons (mVar 6) (mCons (mVar 1) mNil))) (mCons (mCallF 2 m_how_many_of_degree (mCons (mVar 6) (mCons (mVar 1) mNil))) (mCons (mLc (mSeqI (mVar 2)) (gN 9) mYes (mCallF 1 m_tree_number (mCons (mVar 9) mNil)) [9]) mNil))))))
    (mSeq (mSet 7 (mLst (mCons (mLc (mSeqI (mVar 2)) (gN 9) (mTB (mBin eqD (mCallF 1 (m__law_leaves 12) (mCons (mVar 9) mNil)) (mVar 5))) (mVar 9) [9]) (mCons (mLc (mSeqI (mVar 2)) (gN 9) (mTB (mBin (cmpD oLe) (mCallF 1 (m__law_most 12) (mCons (mVar 9) mNil)) (mVar 6))) (mVar 9) [9]) mNil))))
    (mSeq (mIfS (mNot (mTV (mCallF 2 (m__law_same 12) (mCons (mVar 4) (mCons (mBin addD (mVar 7) (mLst (mCons (mCall (fa1 lenF) (mCons (mBin ixD (mVar 7) (mC (.int 1))) mNil)) (mCons (mBin lrgF (mCall (fa1 sumF2) (mCons (mSlice (mVar 3) mNoPart (mPart (mBin subD (mVar 1) (mC (.int 1))))) mNil)) (mCall (fa1 sumF2) (mCons (mSlice (mVar 3) mNoPart (mPart (mVar 1))) mNil))) mNil)))) mNil))))) (mRet (mC (.bl false))) mNext)
    (mSeq (mIfS (mTB (mBin (cmpD oLt) (mVar 1) (mC (.int 7)))) (mSeq (mSet 8 (mLst mNil))
    (mSeq (mFor (mSeqI (mVar 2)) (gN 9) (mSeq (mSet 10 (mCallF 1 m_grown_trees (mCons (mCallF 1 (m__law_lists 12) (mCons (mVar 9) mNil)) mNil)))
    (mSeq (mIfS (mTB (mBin neD (mVar 10) (mCall (fa1 srtF) (mCons (mCallF 1 (m__law_grown 12) (mCons (mVar 9) mNil)) mNil)))) (mRet (mC (.bl false))) mNext)
    (mExpr (mMeth okL extF (mVar 8) (mCons (mVar 10) mNil))))))
    (mIfS (mTB (mBin neD (mLc (mSeqI (mCallF 1 g__law_trees (mCons (mBin addD (mVar 1) (mC (.int 1))) mNil))) (gN 9) (mTB (mBin (inD true) (mVar 9) (mVar 8))) (mVar 9) [9]) (mLst mNil))) (mRet (mC (.bl false))) mNext))) mNext)
    (mSeq (mSet 11 (mCallF 1 m__law_added (mCons (mLc (mSeqI (mVar 2)) (gN 9) mYes (mTup (mCons (mC (.int 1)) (mCons (mCallF 1 (m__law_likeness 12) (mCons (mVar 9) mNil)) mNil))) [9]) mNil)))
    (mSeq (mSet 12 (mC (.int 1)))
    (mSeq (mFor (mRg1I (mCons (mBin subD (mVar 1) (mC (.int 1))) mNil)) (gN 13) (mSet 12 (mBin mulD (mVar 12) (mVar 1))))
    (mRet (mAndV (mBin eqD (mCallF 1 m_likeness_sum (mCons (mVar 1) mNil)) (mVar 11)) (mBin eqD (mCall (fa1 sumF2) (mCons (mLc (mSeqI (mVar 2)) (gN 9) mYes (mCallF 1 m_how_many_free (mCons (mVar 9) mNil)) [9]) mNil)) (mVar 12))))))))))))))))
theorem c__law_lists_right {P : Program} {w : World} {K : PySem.W.Frag} {mg : Str → Option Value} {base : Heap} (T : Top K mg) : CallM P w K mg base 18 2 "_law_lists_right" m__law_lists_right := by
  obtain ⟨fd, F, hm⟩ := T.def_ 109 (d := dd "_law_lists_right" 130) rfl rfl
  refine CallM.flat (call_def (st := top 130) F sc__law_lists_right hm rfl rfl (fun _ _ _ _ _ _ us hl => match us, hl with | [_, _], _ => rfl) (fun cdv A outer s H E hr => ?_))
  have S := sc__law_lists_right
  exact (iss_cons (is_par (i := 2) (j := 3) rfl S.nd rfl rfl (by decide) rfl rfl (ia_cons (ie_call (o__law_trees T) (hr.mono (by omega)) rfl (ia_cons (ie_var (pv 1)) ia_nil)) (ia_cons (ie_call (o__law_counted T) (hr.mono (by omega)) rfl (ia_cons ie_int ia_nil)) ia_nil)))
    (iss_cons (is_set (i := 4) S.nd rfl (.inl rfl) (ie_lst (ia_cons (ie_call (c_all_trees T) (hr.mono (by omega)) rfl (ia_cons (ie_var (pv 1)) ia_nil)) (ia_cons (ie_call (c_how_many_trees T) (hr.mono (by omega)) rfl (ia_cons (ie_var (pv 1)) ia_nil)) (ia_cons (ie_call (o_tree_counts T) (hr.mono (by omega)) rfl (ia_cons ie_int ia_nil)) (ia_cons (ie_callB call_lenD rfl (T.free 120 rfl) PySem.boot_len (ia_cons (ie_call (c_trees_to T) (hr.mono (by omega)) rfl (ia_cons (ie_var (pv 1)) ia_nil)) ia_nil)) (ia_cons (ie_lc (own := [("tree", 9)]) rfl S.nd (ii_seq (ie_var (pv 2))) (blkOk_by (by kernel_rfl)) (fun _ _ _ _ _ => (ij_name (i := 9) S.nd rfl (.inl rfl))) (fun _ _ _ _ _ => its_nil) (fun _ _ _ _ _ => (ie_call (c_size_of T) (hr.mono (by omega)) rfl (ia_cons (ie_var (pv 9)) ia_nil))) (by decide)) ia_nil)))))))
    (iss_cons (is_if (it_w (iw_or (it_not (it_val (ie_call (c__law_same T 12) (hr.mono (by omega)) rfl (ia_cons (ie_var (pv 4)) (ia_cons (ie_lst (ia_cons (ie_var (pv 2)) (ia_cons (ie_callB call_lenD rfl (T.free 120 rfl) PySem.boot_len (ia_cons (ie_var (pv 2)) ia_nil)) (ia_cons (ie_callTy call_tupD rfl (T.free 129 rfl) (by decide +kernel) (ia_cons (ie_var (pv 3)) ia_nil)) (ia_cons (ie_callB (call_sumD2 rfl) rfl (T.free 128 rfl) (by decide +kernel) (ia_cons (ie_slice (ie_var (pv 3)) io_none (io_some (ie_var (pv 1)))) ia_nil)) (ia_cons (ie_bin op_mulD (ie_lst (ia_cons (ie_var (pv 1)) ia_nil)) (ie_callB call_lenD rfl (T.free 120 rfl) PySem.boot_len (ia_cons (ie_var (pv 2)) ia_nil))) ia_nil)))))) ia_nil))))) (iw_or1 (it_cmp (op_neDD hr.u64) (ie_ix (ie_var (pv 3)) (ie_bin op_subD (ie_var (pv 1)) ie_int)) (ie_callB call_lenD rfl (T.free 120 rfl) PySem.boot_len (ia_cons (ie_var (pv 2)) ia_nil)))))) (iss_one (is_ret ie_bl)) iss_nil)
    (iss_cons (is_asg (ie_tup (ia_cons (ie_call (o__law_take T) (hr.mono (by omega)) rfl (ia_cons (ie_var (pv 0)) (ia_cons (ie_bin op_addD (ie_var (pv 1)) ie_int) ia_nil))) (ia_cons (ie_bin op_addD ie_int (ie_call (o__law_take T) (hr.mono (by omega)) rfl (ia_cons (ie_var (pv 0)) (ia_cons ie_int ia_nil)))) ia_nil))) (ij_tup rfl (ijs_cons (ij_name (i := 5) S.nd rfl (.inr rfl)) (ijs_cons (ij_name (i := 6) S.nd rfl (.inr rfl)) ijs_nil))))
    (iss_cons (is_set (i := 4) S.nd rfl (.inl rfl) (ie_lst (ia_cons (ie_call (c_trees_with T) (hr.mono (by omega)) rfl (ia_cons (ie_var (pv 1)) (ia_cons (ie_var (pv 5)) ia_nil))) (ia_cons (ie_call (c_trees_of_degree T) (hr.mono (by omega)) rfl (ia_cons (ie_var (pv 6)) (ia_cons (ie_var (pv 1)) ia_nil))) (ia_cons (ie_call (c_how_many_of_degree T) (hr.mono (by omega)) rfl (ia_cons (ie_var (pv 6)) (ia_cons (ie_var (pv 1)) ia_nil))) (ia_cons (ie_lc (own := [("tree", 9)]) rfl S.nd (ii_seq (ie_var (pv 2))) (blkOk_by (by kernel_rfl)) (fun _ _ _ _ _ => (ij_name (i := 9) S.nd rfl (.inl rfl))) (fun _ _ _ _ _ => its_nil) (fun _ _ _ _ _ => (ie_call (c_tree_number T) (hr.mono (by omega)) rfl (ia_cons (ie_var (pv 9)) ia_nil))) (by decide)) ia_nil))))))
    (iss_cons (is_set (i := 7) S.nd rfl (.inl rfl) (ie_lst (ia_cons (ie_lc (own := [("tree", 9)]) rfl S.nd (ii_seq (ie_var (pv 2))) (blkOk_by (by kernel_rfl)) (fun _ _ _ _ _ => (ij_name (i := 9) S.nd rfl (.inl rfl))) (fun _ _ _ _ _ => (its_one (it_cmp (op_eqDD hr.u64) (ie_call (c__law_leaves T 12) (hr.mono (by omega)) rfl (ia_cons (ie_var (pv 9)) ia_nil)) (ie_var (pv 5))))) (fun _ _ _ _ _ => (ie_var (pv 9))) (by decide)) (ia_cons (ie_lc (own := [("tree", 9)]) rfl S.nd (ii_seq (ie_var (pv 2))) (blkOk_by (by kernel_rfl)) (fun _ _ _ _ _ => (ij_name (i := 9) S.nd rfl (.inl rfl))) (fun _ _ _ _ _ => (its_one (it_cmp (op_leD hr.u64) (ie_call (c__law_most T 12) (hr.mono (by omega)) rfl (ia_cons (ie_var (pv 9)) ia_nil)) (ie_var (pv 6))))) (fun _ _ _ _ _ => (ie_var (pv 9))) (by decide)) ia_nil))))
    (iss_cons (is_if (it_not (it_val (ie_call (c__law_same T 12) (hr.mono (by omega)) rfl (ia_cons (ie_var (pv 4)) (ia_cons (ie_bin op_addD (ie_var (pv 7)) (ie_lst (ia_cons (ie_callB call_lenD rfl (T.free 120 rfl) PySem.boot_len (ia_cons (ie_ix (ie_var (pv 7)) ie_int) ia_nil)) (ia_cons (ie_lrg2 rfl (ie_callB (call_sumD2 rfl) rfl (T.free 128 rfl) (by decide +kernel) (ia_cons (ie_slice (ie_var (pv 3)) io_none (io_some (ie_bin op_subD (ie_var (pv 1)) ie_int))) ia_nil)) (ie_callB (call_sumD2 rfl) rfl (T.free 128 rfl) (by decide +kernel) (ia_cons (ie_slice (ie_var (pv 3)) io_none (io_some (ie_var (pv 1)))) ia_nil)) rfl (T.free 121 rfl) rfl (T.free 124 rfl)) ia_nil)))) ia_nil))))) (iss_one (is_ret ie_bl)) iss_nil)
    (iss_cons (is_if (it_cmp (op_ltD hr.u64) (ie_var (pv 1)) ie_int) (iss_cons (is_set (i := 8) S.nd rfl (.inr rfl) (ie_lst ia_nil))
    (iss_cons (is_for rfl PassesOwn.never (ii_seq (ie_var (pv 2))) (ij_name (i := 9) S.nd rfl (.inl rfl)) (iss_cons (is_set (i := 10) S.nd rfl (.inl rfl) (ie_call (c_grown_trees T) (hr.mono (by omega)) rfl (ia_cons (ie_call (c__law_lists T 12) (hr.mono (by omega)) rfl (ia_cons (ie_var (pv 9)) ia_nil)) ia_nil)))
    (iss_cons (is_if (it_cmp (op_neDD hr.u64) (ie_var (pv 10)) (ie_callB (call_srtD hr.u64) rfl (T.free 126 rfl) (by decide +kernel) (ia_cons (ie_call (c__law_grown T 12) (hr.mono (by omega)) rfl (ia_cons (ie_var (pv 9)) ia_nil)) ia_nil))) (iss_one (is_ret ie_bl)) iss_nil)
    (iss_one (is_expr (ie_meth mt_extD (ie_var (pv 8)) (ia_cons (ie_var (pv 10)) ia_nil)))))))
    (iss_one (is_if (it_cmp (op_neDD hr.u64) (ie_lc (own := [("tree", 9)]) rfl S.nd (ii_seq (ie_call (o__law_trees T) (hr.mono (by omega)) rfl (ia_cons (ie_bin op_addD (ie_var (pv 1)) ie_int) ia_nil))) (blkOk_by (by kernel_rfl)) (fun _ _ _ _ _ => (ij_name (i := 9) S.nd rfl (.inl rfl))) (fun _ _ _ _ _ => (its_one (it_cmp (op_notInDD hr.u65) (ie_var (pv 9)) (ie_var (pv 8))))) (fun _ _ _ _ _ => (ie_var (pv 9))) (by decide)) (ie_lst ia_nil)) (iss_one (is_ret ie_bl)) iss_nil)))) iss_nil)
    (iss_cons (is_set (i := 11) S.nd rfl (.inl rfl) (ie_call (c__law_added T) (hr.mono (by omega)) rfl (ia_cons (ie_lc (own := [("tree", 9)]) rfl S.nd (ii_seq (ie_var (pv 2))) (blkOk_by (by kernel_rfl)) (fun _ _ _ _ _ => (ij_name (i := 9) S.nd rfl (.inl rfl))) (fun _ _ _ _ _ => its_nil) (fun _ _ _ _ _ => (ie_tup (ia_cons ie_int (ia_cons (ie_call (c__law_likeness T 12) (hr.mono (by omega)) rfl (ia_cons (ie_var (pv 9)) ia_nil)) ia_nil)))) (by decide)) ia_nil)))
    (iss_cons (is_set (i := 12) S.nd rfl (.inl rfl) ie_int)
    (iss_cons (is_for rfl PassesOwn.never (ii_rg1 rfl (T.free 124 rfl) (ia_cons (ie_bin op_subD (ie_var (pv 1)) ie_int) ia_nil)) (ij_name (i := 13) S.nd rfl (.inl rfl)) (iss_one (is_set (i := 12) S.nd rfl (.inl rfl) (ie_bin op_mulD (ie_var (pv 12)) (ie_var (pv 1))))))
    (iss_one (is_ret (ie_and (ie_cmp (op_eqDD hr.u64) (ie_call (c_likeness_sum T) (hr.mono (by omega)) rfl (ia_cons (ie_var (pv 1)) ia_nil)) (ie_var (pv 11))) (ie_one (ie_cmp (op_eqDD hr.u64) (ie_callB (call_sumD2 rfl) rfl (T.free 128 rfl) (by decide +kernel) (ia_cons (ie_lc (own := [("tree", 9)]) rfl S.nd (ii_seq (ie_var (pv 2))) (blkOk_by (by kernel_rfl)) (fun _ _ _ _ _ => (ij_name (i := 9) S.nd rfl (.inl rfl))) (fun _ _ _ _ _ => its_nil) (fun _ _ _ _ _ => (ie_call (c_how_many_free T) (hr.mono (by omega)) rfl (ia_cons (ie_var (pv 9)) ia_nil))) (by decide)) ia_nil)) (ie_var (pv 12))))))))))))))))))
theorem lists_0 : ((m__law_lists_right [.ref 0, .int (((0 : Nat) : Int) + 1)] (oneH (.box 1))).allB (fun a h2 => D.eqb a (.bl true) && boxH 3 h2)) = true := by decide +kernel
theorem lists_1 : ((m__law_lists_right [.ref 0, .int (((1 : Nat) : Int) + 1)] (oneH (.box 1))).allB (fun a h2 => D.eqb a (.bl true) && boxH 3 h2)) = true := by decide +kernel
theorem lists_2 : ((m__law_lists_right [.ref 0, .int (((2 : Nat) : Int) + 1)] (oneH (.box 1))).allB (fun a h2 => D.eqb a (.bl true) && boxH 3 h2)) = true := by decide +kernel
theorem lists_3 : ((m__law_lists_right [.ref 0, .int (((3 : Nat) : Int) + 1)] (oneH (.box 1))).allB (fun a h2 => D.eqb a (.bl true) && boxH 3 h2)) = true := by decide +kernel
theorem lists_4 : ((m__law_lists_right [.ref 0, .int (((4 : Nat) : Int) + 1)] (oneH (.box 1))).allB (fun a h2 => D.eqb a (.bl true) && boxH 3 h2)) = true := by decide +kernel
def R.pickD {α : Type} (r : R α) (i : Nat) : R α := match r with
  | .drw _ k => k i
  | _ => .err
def R.isD {α : Type} (r : R α) (n : Nat) : Bool := match r with
  | .drw m _ => Nat.beq m n
  | _ => false
theorem allB_split {α : Type} {p : α → MH → Bool} {r : R α} {n : Nat} (h : r.isD n = true) (k : ∀ i, i < n → (r.pickD i).allB p = true) : r.allB p = true := by
  cases r with
  | ok a h2 => cases h
  | err => cases h
  | drw m f =>
    have e : m = n := Nat.eq_of_beq_eq_true h
    subst e
    exact List.all_eq_true.mpr fun i hi => k i (List.mem_range.mp hi)
def r5 : R D := m__law_lists_right [.ref 0, .int (((5 : Nat) : Int) + 1)] (oneH (.box 1))
theorem r5_d : r5.isD 7 = true := by decide +kernel
theorem r5_0 : ((r5.pickD 0).allB (fun a h2 => D.eqb a (.bl true) && boxH 3 h2)) = true := by decide +kernel
theorem r5_1 : ((r5.pickD 1).allB (fun a h2 => D.eqb a (.bl true) && boxH 3 h2)) = true := by decide +kernel
theorem r5_2 : ((r5.pickD 2).allB (fun a h2 => D.eqb a (.bl true) && boxH 3 h2)) = true := by decide +kernel
theorem r5_3 : ((r5.pickD 3).allB (fun a h2 => D.eqb a (.bl true) && boxH 3 h2)) = true := by decide +kernel
theorem r5_4 : ((r5.pickD 4).allB (fun a h2 => D.eqb a (.bl true) && boxH 3 h2)) = true := by decide +kernel
theorem r5_5 : ((r5.pickD 5).allB (fun a h2 => D.eqb a (.bl true) && boxH 3 h2)) = true := by decide +kernel
theorem r5_6 : ((r5.pickD 6).allB (fun a h2 => D.eqb a (.bl true) && boxH 3 h2)) = true := by decide +kernel
theorem lists_5 : ((m__law_lists_right [.ref 0, .int (((5 : Nat) : Int) + 1)] (oneH (.box 1))).allB (fun a h2 => D.eqb a (.bl true) && boxH 3 h2)) = true :=
  allB_split (r := r5) r5_d fun i hi => match i, hi with
    | 0, _ => r5_0 | 1, _ => r5_1 | 2, _ => r5_2 | 3, _ => r5_3 | 4, _ => r5_4 | 5, _ => r5_5 | 6, _ => r5_6
theorem lists_6 : ((m__law_lists_right [.ref 0, .int (((6 : Nat) : Int) + 1)] (oneH (.box 1))).allB (fun a h2 => D.eqb a (.bl true) && boxH 3 h2)) = true := by decide +kernel
def g__law_lists_right : FA := boxF 7 1 3
theorem o__law_lists_right {P : Program} {w : World} {K : PySem.W.Frag} {mg : Str → Option Value} {base : Heap} (T : Top K mg) : CallM P w K mg base 18 2 "_law_lists_right" g__law_lists_right := (c__law_lists_right T).box (List.all_eq_true.mpr fun i hi => match i, List.mem_range.mp hi with
  | 0, _ => lists_0 | 1, _ => lists_1 | 2, _ => lists_2 | 3, _ => lists_3 | 4, _ => lists_4 | 5, _ => lists_5 | 6, _ => lists_6)
theorem sc__law_lots_right : FnScope ["many", "ways", "told", "got", "parts", "lot", "trees", "part", "own", "k"] ["many"] (defScope (top 131)) := ⟨rfl, rfl, rfl, by decide +kernel, rfl, by decide +kernel, by decide +kernel⟩
def m__law_lots_right : FA := flatF ( mDef 9
    (mSeq (mSet 1 (mCallF 1 g__law_parted (mCons (mC (.int 23)) mNil)))
    (mSeq (mSet 2 (mCallF 1 m_number_lots (mCons (mVar 0) mNil)))
    (mSeq (mSet 3 (mLst (mCons (mCallF 1 g_lot_counts (mCons (mC (.int 24)) mNil)) (mCons (mCall (fa1 lenF) (mCons (mVar 2) mNil)) (mCons (mCall (fa1 srtF) (mCons (mUn sumLF (mLc (mSeqI (mVar 2)) (gTupM 2 (gsCons (gN 5) (gsCons (gN 6) gsNil))) mYes (mCall (fa1 lstF) (mCons (mVar 6) mNil)) [5, 6])) mNil)) mNil)))))
    (mSeq (mIfS (mNot (mTV (mCallF 2 (m__law_same 12) (mCons (mVar 3) (mCons (mLst (mCons (mCall (fa1 tupF) (mCons (mSlice (mVar 1) mNoPart (mPart (mC (.int 24)))) mNil)) (mCons (mBin ixD (mVar 1) (mBin subD (mVar 0) (mC (.int 1)))) (mCons (mCallF 1 g__law_trees (mCons (mVar 0) mNil)) mNil)))) mNil))))) (mRet (mC (.bl false))) mNext)
    (mSeq (mSet 4 (mCall (fa1 srtF) (mCons (mLc (mSeqI (mVar 2)) (gTupM 2 (gsCons (gN 5) (gsCons (gN 6) gsNil))) mYes (mCall (fa1 tupF) (mCons (mLc (mSeqI (mVar 5)) (gN 8) (mTB (mBin (cmpD oGt) (mVar 8) (mC (.int 0)))) (mVar 8) [8]) mNil)) [5, 6]) mNil)))
    (mRet (mAndV (mBin eqD (mCall (fa1 lenF) (mCons (mVar 4) mNil)) (mCall (fa1 lenF) (mCons (mLc (mEnumI (mVar 4)) (gTupM 2 (gsCons (gN 9) (gsCons (gN 7) gsNil))) (mTB (mBin (inD true) (mVar 7) (mSlice (mVar 4) mNoPart (mPart (mVar 9))))) (mVar 7) [9, 7]) mNil))) (mBin eqD (mLc (mSeqI (mVar 4)) (gN 7) (mTB (mBin neD (mCall (fa1 sumF2) (mCons (mVar 7) mNil)) (mBin subD (mVar 0) (mC (.int 1))))) (mVar 7) [7]) (mLst mNil))))))))))
theorem c__law_lots_right {P : Program} {w : World} {K : PySem.W.Frag} {mg : Str → Option Value} {base : Heap} (T : Top K mg) : CallM P w K mg base 18 1 "_law_lots_right" m__law_lots_right := by
  obtain ⟨fd, F, hm⟩ := T.def_ 110 (d := dd "_law_lots_right" 131) rfl rfl
  refine CallM.flat (call_def (st := top 131) F sc__law_lots_right hm rfl rfl (fun _ _ _ _ _ _ us hl => match us, hl with | [_], _ => rfl) (fun cdv A outer s H E hr => ?_))
  have S := sc__law_lots_right
  exact (iss_cons (is_set (i := 1) S.nd rfl (.inl rfl) (ie_call (o__law_parted T) (hr.mono (by omega)) rfl (ia_cons ie_int ia_nil)))
    (iss_cons (is_set (i := 2) S.nd rfl (.inl rfl) (ie_call (c_number_lots T) (hr.mono (by omega)) rfl (ia_cons (ie_var (pv 0)) ia_nil)))
    (iss_cons (is_set (i := 3) S.nd rfl (.inl rfl) (ie_lst (ia_cons (ie_call (o_lot_counts T) (hr.mono (by omega)) rfl (ia_cons ie_int ia_nil)) (ia_cons (ie_callB call_lenD rfl (T.free 120 rfl) PySem.boot_len (ia_cons (ie_var (pv 2)) ia_nil)) (ia_cons (ie_callB (call_srtD hr.u64) rfl (T.free 126 rfl) (by decide +kernel) (ia_cons (ie_sumL rfl (T.free 128 rfl) (ie_lc (own := [("lot", 5), ("trees", 6)]) rfl S.nd (ii_seq (ie_var (pv 2))) (blkOk_by (by kernel_rfl)) (fun _ _ _ _ _ => (ij_tup rfl (ijs_cons (ij_name (i := 5) S.nd rfl (.inl rfl)) (ijs_cons (ij_name (i := 6) S.nd rfl (.inl rfl)) ijs_nil)))) (fun _ _ _ _ _ => its_nil) (fun _ _ _ _ _ => (ie_callTy call_lstD rfl (T.free 121 rfl) (by decide +kernel) (ia_cons (ie_var (pv 6)) ia_nil))) (by decide))) ia_nil)) ia_nil)))))
    (iss_cons (is_if (it_not (it_val (ie_call (c__law_same T 12) (hr.mono (by omega)) rfl (ia_cons (ie_var (pv 3)) (ia_cons (ie_lst (ia_cons (ie_callTy call_tupD rfl (T.free 129 rfl) (by decide +kernel) (ia_cons (ie_slice (ie_var (pv 1)) io_none (io_some ie_int)) ia_nil)) (ia_cons (ie_ix (ie_var (pv 1)) (ie_bin op_subD (ie_var (pv 0)) ie_int)) (ia_cons (ie_call (o__law_trees T) (hr.mono (by omega)) rfl (ia_cons (ie_var (pv 0)) ia_nil)) ia_nil)))) ia_nil))))) (iss_one (is_ret ie_bl)) iss_nil)
    (iss_cons (is_set (i := 4) S.nd rfl (.inr rfl) (ie_callB (call_srtD hr.u64) rfl (T.free 126 rfl) (by decide +kernel) (ia_cons (ie_lc (own := [("lot", 5), ("trees", 6)]) rfl S.nd (ii_seq (ie_var (pv 2))) (blkOk_by (by kernel_rfl)) (fun _ _ _ _ _ => (ij_tup rfl (ijs_cons (ij_name (i := 5) S.nd rfl (.inl rfl)) (ijs_cons (ij_name (i := 6) S.nd rfl (.inl rfl)) ijs_nil)))) (fun _ _ _ _ _ => its_nil) (fun _ _ _ _ _ => (ie_callTy call_tupD rfl (T.free 129 rfl) (by decide +kernel) (ia_cons (ie_lc (own := [("own", 8)]) rfl S.nd (ii_seq (ie_var (pv 5))) (blkOk_by (by kernel_rfl)) (fun _ _ _ _ _ => (ij_name (i := 8) S.nd rfl (.inl rfl))) (fun _ _ _ _ _ => (its_one (it_cmp (op_gtD hr.u64) (ie_var (pv 8)) ie_int))) (fun _ _ _ _ _ => (ie_var (pv 8))) (by decide)) ia_nil))) (by decide)) ia_nil)))
    (iss_one (is_ret (ie_and (ie_cmp (op_eqDD hr.u64) (ie_callB call_lenD rfl (T.free 120 rfl) PySem.boot_len (ia_cons (ie_var (pv 4)) ia_nil)) (ie_callB call_lenD rfl (T.free 120 rfl) PySem.boot_len (ia_cons (ie_lc (own := [("k", 9), ("part", 7)]) rfl S.nd (ii_enum rfl (T.free 117 rfl) (ie_var (pv 4))) (blkOk_by (by kernel_rfl)) (fun _ _ _ _ _ => (ij_tup rfl (ijs_cons (ij_name (i := 9) S.nd rfl (.inl rfl)) (ijs_cons (ij_name (i := 7) S.nd rfl (.inl rfl)) ijs_nil)))) (fun _ _ _ _ _ => (its_one (it_cmp (op_notInDD hr.u65) (ie_var (pv 7)) (ie_slice (ie_var (pv 4)) io_none (io_some (ie_var (pv 9))))))) (fun _ _ _ _ _ => (ie_var (pv 7))) (by decide)) ia_nil))) (ie_one (ie_cmp (op_eqDD hr.u64) (ie_lc (own := [("part", 7)]) rfl S.nd (ii_seq (ie_var (pv 4))) (blkOk_by (by kernel_rfl)) (fun _ _ _ _ _ => (ij_name (i := 7) S.nd rfl (.inl rfl))) (fun _ _ _ _ _ => (its_one (it_cmp (op_neDD hr.u64) (ie_callB (call_sumD2 rfl) rfl (T.free 128 rfl) (by decide +kernel) (ia_cons (ie_var (pv 7)) ia_nil)) (ie_bin op_subD (ie_var (pv 0)) ie_int)))) (fun _ _ _ _ _ => (ie_var (pv 7))) (by decide)) (ie_lst ia_nil)))))))))))
def g__law_lots_right : FA := valF 7 (fun _ => .bl true)
theorem o__law_lots_right {P : Program} {w : World} {K : PySem.W.Frag} {mg : Str → Option Value} {base : Heap} (T : Top K mg) : CallM P w K mg base 18 1 "_law_lots_right" g__law_lots_right := (c__law_lots_right T).val (by decide +kernel)
theorem sc__law_colours_right : FnScope ["many", "found", "each", "lap", "tree", "own", "total", "got", "one"] ["many"] (defScope (top 132)) := ⟨rfl, rfl, rfl, by decide +kernel, rfl, by decide +kernel, by decide +kernel⟩
def m__law_colours_right : FA := flatF ( mDef 8
    (mSeq (mSet 1 (mCallF 1 m_coloured_trees (mCons (mVar 0) mNil)))
    (mSeq (mSet 2 (mC (.int 1)))
    (mSeq (mFor (mRg1I (mCons (mVar 0) mNil)) (gN 3) (mSet 2 (mBin mulD (mVar 2) (mC (.int 2)))))
    (mSeq (mFor (mSeqI (mCallF 1 g__law_trees (mCons (mVar 0) mNil))) (gN 4) (mSeq (mSet 5 (mLc (mSeqI (mVar 1)) (gN 8) (mTB (mBin eqD (mCallF 1 (m__law_bare 12) (mCons (mVar 8) mNil)) (mVar 4))) (mVar 8) [8]))
    (mSeq (mSet 6 (mCallF 1 m__law_added (mCons (mLc (mSeqI (mVar 5)) (gN 8) mYes (mTup (mCons (mCallF 1 (m__law_likeness 12) (mCons (mVar 4) mNil)) (mCons (mCallF 1 (m__law_coloured_likeness 12) (mCons (mVar 8) mNil)) mNil))) [8]) mNil)))
    (mIfS (mOr (mTB (mBin neD (mVar 6) (mTup (mCons (mVar 2) (mCons (mC (.int 1)) mNil))))) (mOr (mTB (mBin (inD true) (mCallF 2 m_painted (mCons (mVar 4) (mCons (mC (.int 0)) mNil))) (mVar 5))) (mTB (mBin (inD true) (mCallF 2 m_painted (mCons (mCallF 1 (m__law_lists 12) (mCons (mVar 4) mNil)) (mCons (mC (.int 1)) mNil))) (mVar 5))))) (mRet (mC (.bl false))) mNext))))
    (mSeq (mSet 7 (mLst (mCons (mBin eqD (mVar 1) (mCall (fa1 srtF) (mCons (mVar 1) mNil))) (mCons (mLc (mSeqI (mVar 1)) (gN 8) mYes (mCallF 1 m_bare_tree (mCons (mVar 8) mNil)) [8]) (mCons (mLc (mSeqI (mVar 1)) (gN 8) mYes (mCallF 1 m_coloured_size (mCons (mVar 8) mNil)) [8]) (mCons (mLc (mSeqI (mVar 1)) (gN 8) mYes (mCallF 1 (m_is_coloured 12) (mCons (mVar 8) mNil)) [8]) (mCons (mLc (mSeqI (mVar 1)) (gN 8) mYes (mCallF 2 m_coloured_of (mCons (mBin ixD (mVar 8) (mC (.int 0))) (mCons (mUn revF (mBin ixD (mVar 8) (mC (.int 1)))) mNil))) [8]) mNil)))))))
    (mRet (mCallF 2 (m__law_same 12) (mCons (mVar 7) (mCons (mLst (mCons (mC (.bl true)) (mCons (mLc (mSeqI (mVar 1)) (gN 8) mYes (mCallF 1 (m__law_bare 12) (mCons (mVar 8) mNil)) [8]) (mCons (mBin mulD (mLst (mCons (mVar 0) mNil)) (mCall (fa1 lenF) (mCons (mVar 1) mNil))) (mCons (mBin mulD (mLst (mCons (mC (.bl true)) mNil)) (mCall (fa1 lenF) (mCons (mVar 1) mNil))) (mCons (mVar 1) mNil)))))) mNil))))))))))
theorem c__law_colours_right {P : Program} {w : World} {K : PySem.W.Frag} {mg : Str → Option Value} {base : Heap} (T : Top K mg) : CallM P w K mg base 19 1 "_law_colours_right" m__law_colours_right := by
  obtain ⟨fd, F, hm⟩ := T.def_ 111 (d := dd "_law_colours_right" 132) rfl rfl
  refine CallM.flat (call_def (st := top 132) F sc__law_colours_right hm rfl rfl (fun _ _ _ _ _ _ us hl => match us, hl with | [_], _ => rfl) (fun cdv A outer s H E hr => ?_))
  have S := sc__law_colours_right
  exact (iss_cons (is_set (i := 1) S.nd rfl (.inl rfl) (ie_call (c_coloured_trees T) (hr.mono (by omega)) rfl (ia_cons (ie_var (pv 0)) ia_nil)))
    (iss_cons (is_set (i := 2) S.nd rfl (.inl rfl) ie_int)
    (iss_cons (is_for rfl PassesOwn.never (ii_rg1 rfl (T.free 124 rfl) (ia_cons (ie_var (pv 0)) ia_nil)) (ij_name (i := 3) S.nd rfl (.inl rfl)) (iss_one (is_set (i := 2) S.nd rfl (.inl rfl) (ie_bin op_mulD (ie_var (pv 2)) ie_int))))
    (iss_cons (is_for rfl PassesOwn.never (ii_seq (ie_call (o__law_trees T) (hr.mono (by omega)) rfl (ia_cons (ie_var (pv 0)) ia_nil))) (ij_name (i := 4) S.nd rfl (.inr rfl)) (iss_cons (is_setLc (i := 5) (own := [("one", 8)]) rfl S.nd rfl rfl (sw_true rfl rfl rfl (by decide +kernel)) (ii_seq (ie_var (pv 1))) (blkOk_by (by kernel_rfl)) (fun _ _ _ _ _ => (ij_name (i := 8) S.nd rfl (.inl rfl))) (fun _ _ _ _ _ => (its_one (it_cmp (op_eqDD hr.u64) (ie_call (c__law_bare T 12) (hr.mono (by omega)) rfl (ia_cons (ie_var (pv 8)) ia_nil)) (ie_var (pv 4))))) (fun _ _ _ _ _ => (ie_var (pv 8))) (by decide))
    (iss_cons (is_set (i := 6) S.nd rfl (.inl rfl) (ie_call (c__law_added T) (hr.mono (by omega)) rfl (ia_cons (ie_lc (own := [("one", 8)]) rfl S.nd (ii_seq (ie_var (pv 5))) (blkOk_by (by kernel_rfl)) (fun _ _ _ _ _ => (ij_name (i := 8) S.nd rfl (.inl rfl))) (fun _ _ _ _ _ => its_nil) (fun _ _ _ _ _ => (ie_tup (ia_cons (ie_call (c__law_likeness T 12) (hr.mono (by omega)) rfl (ia_cons (ie_var (pv 4)) ia_nil)) (ia_cons (ie_call (c__law_coloured_likeness T 12) (hr.mono (by omega)) rfl (ia_cons (ie_var (pv 8)) ia_nil)) ia_nil)))) (by decide)) ia_nil)))
    (iss_one (is_if (it_w (iw_or (it_cmp (op_neDD hr.u64) (ie_var (pv 6)) (ie_tup (ia_cons (ie_var (pv 2)) (ia_cons ie_int ia_nil)))) (iw_or (it_cmp (op_notInDD hr.u65) (ie_call (c_painted T) (hr.mono (by omega)) rfl (ia_cons (ie_var (pv 4)) (ia_cons ie_int ia_nil))) (ie_var (pv 5))) (iw_or1 (it_cmp (op_notInDD hr.u65) (ie_call (c_painted T) (hr.mono (by omega)) rfl (ia_cons (ie_call (c__law_lists T 12) (hr.mono (by omega)) rfl (ia_cons (ie_var (pv 4)) ia_nil)) (ia_cons ie_int ia_nil))) (ie_var (pv 5))))))) (iss_one (is_ret ie_bl)) iss_nil)))))
    (iss_cons (is_set (i := 7) S.nd rfl (.inl rfl) (ie_lst (ia_cons (ie_cmp (op_eqDD hr.u64) (ie_var (pv 1)) (ie_callB (call_srtD hr.u64) rfl (T.free 126 rfl) (by decide +kernel) (ia_cons (ie_var (pv 1)) ia_nil))) (ia_cons (ie_lc (own := [("one", 8)]) rfl S.nd (ii_seq (ie_var (pv 1))) (blkOk_by (by kernel_rfl)) (fun _ _ _ _ _ => (ij_name (i := 8) S.nd rfl (.inl rfl))) (fun _ _ _ _ _ => its_nil) (fun _ _ _ _ _ => (ie_call (c_bare_tree T) (hr.mono (by omega)) rfl (ia_cons (ie_var (pv 8)) ia_nil))) (by decide)) (ia_cons (ie_lc (own := [("one", 8)]) rfl S.nd (ii_seq (ie_var (pv 1))) (blkOk_by (by kernel_rfl)) (fun _ _ _ _ _ => (ij_name (i := 8) S.nd rfl (.inl rfl))) (fun _ _ _ _ _ => its_nil) (fun _ _ _ _ _ => (ie_call (c_coloured_size T) (hr.mono (by omega)) rfl (ia_cons (ie_var (pv 8)) ia_nil))) (by decide)) (ia_cons (ie_lc (own := [("one", 8)]) rfl S.nd (ii_seq (ie_var (pv 1))) (blkOk_by (by kernel_rfl)) (fun _ _ _ _ _ => (ij_name (i := 8) S.nd rfl (.inl rfl))) (fun _ _ _ _ _ => its_nil) (fun _ _ _ _ _ => (ie_call (c_is_coloured T 12) (hr.mono (by omega)) rfl (ia_cons (ie_var (pv 8)) ia_nil))) (by decide)) (ia_cons (ie_lc (own := [("one", 8)]) rfl S.nd (ii_seq (ie_var (pv 1))) (blkOk_by (by kernel_rfl)) (fun _ _ _ _ _ => (ij_name (i := 8) S.nd rfl (.inl rfl))) (fun _ _ _ _ _ => its_nil) (fun _ _ _ _ _ => (ie_call (c_coloured_of T) (hr.mono (by omega)) rfl (ia_cons (ie_ix (ie_var (pv 8)) ie_int) (ia_cons (ie_rev (ie_ix (ie_var (pv 8)) ie_int)) ia_nil)))) (by decide)) ia_nil)))))))
    (iss_one (is_ret (ie_call (c__law_same T 12) (hr.mono (by omega)) rfl (ia_cons (ie_var (pv 7)) (ia_cons (ie_lst (ia_cons ie_bl (ia_cons (ie_lc (own := [("one", 8)]) rfl S.nd (ii_seq (ie_var (pv 1))) (blkOk_by (by kernel_rfl)) (fun _ _ _ _ _ => (ij_name (i := 8) S.nd rfl (.inl rfl))) (fun _ _ _ _ _ => its_nil) (fun _ _ _ _ _ => (ie_call (c__law_bare T 12) (hr.mono (by omega)) rfl (ia_cons (ie_var (pv 8)) ia_nil))) (by decide)) (ia_cons (ie_bin op_mulD (ie_lst (ia_cons (ie_var (pv 0)) ia_nil)) (ie_callB call_lenD rfl (T.free 120 rfl) PySem.boot_len (ia_cons (ie_var (pv 1)) ia_nil))) (ia_cons (ie_bin op_mulD (ie_lst (ia_cons ie_bl ia_nil)) (ie_callB call_lenD rfl (T.free 120 rfl) PySem.boot_len (ia_cons (ie_var (pv 1)) ia_nil))) (ia_cons (ie_var (pv 1)) ia_nil)))))) ia_nil))))))))))
def g__law_colours_right : FA := valF 4 (fun _ => .bl true)
theorem o__law_colours_right {P : Program} {w : World} {K : PySem.W.Frag} {mg : Str → Option Value} {base : Heap} (T : Top K mg) : CallM P w K mg base 19 1 "_law_colours_right" g__law_colours_right := (c__law_colours_right T).val (by decide +kernel)
theorem sc__law_one_right : FnScope ["tin", "tree", "size", "nodes", "under_v", "sizes", "hangs", "orders", "k", "got", "due", "cuts", "middles", "own", "node", "stump", "fallen", "much", "part", "one"] ["tin", "tree"] (defScope (top 133)) := ⟨rfl, rfl, rfl, by decide +kernel, rfl, by decide +kernel, by decide +kernel⟩
def m__law_one_right : FA := flatF ( mDef 18
    (mSeq (mAsg (mTup (mCons (mCallF 1 m__law_size (mCons (mVar 1) mNil)) (mCons (mCallF 1 m_nodes_of (mCons (mVar 1) mNil)) (mCons (mCallF 1 m_nodes_under (mCons (mVar 1) mNil)) mNil)))) (gTupM 3 (gsCons (gN 2) (gsCons (gN 3) (gsCons (gN 4) gsNil)))))
    (mSeq (mSet 5 (mCall (fa1 tupF) (mCons (mLc (mSeqI (mVar 3)) (gN 13) mYes (mCallF 1 m__law_size (mCons (mVar 13) mNil)) [13]) mNil)))
    (mSeq (mSet 6 (mLc (mSeqI (mVar 3)) (gN 13) mYes (mCall (fa1 lenF) (mCons (mVar 13) mNil)) [13]))
    (mSeq (mSet 7 (mC (.int 1)))
    (mSeq (mFor (mRg2I (mCons (mC (.int 2)) (mCons (mBin addD (mVar 2) (mC (.int 1))) mNil))) (gN 8) (mSet 7 (mBin mulD (mVar 7) (mVar 8))))
    (mSeq (mSet 9 (mLst (mCons (mCallF 1 m_node_sizes (mCons (mVar 1) mNil)) (mCons (mLc (mSeqI (mVar 4)) (gN 13) mYes (mCall (fa1 lenF) (mCons (mVar 13) mNil)) [13]) (mCons (mCallF 1 m_hanging_counts (mCons (mCallF 1 (m__law_lists 12) (mCons (mVar 1) mNil)) mNil)) (mCons (mBin mulD (mCallF 1 m_how_many_orders (mCons (mVar 1) mNil)) (mCallF 1 (m__law_density 12) (mCons (mVar 1) mNil))) (mCons (mCallF 1 m_leaves_of (mCons (mVar 1) mNil)) (mCons (mCallF 1 m_depth_of (mCons (mVar 1) mNil)) (mCons (mCallF 1 m_most_hanging (mCons (mVar 1) mNil)) (mCons (mCallF 1 m_likeness (mCons (mVar 1) mNil)) (mCons (mBin ixD (mVar 3) (mC (.int 0))) mNil)))))))))))
    (mSeq (mSet 10 (mLst (mCons (mVar 5) (mCons (mVar 6) (mCons (mCall (fa1 tupF) (mCons (mLc (mRg1I (mCons (mBin addD (mCall (fa1 maxF2) (mCons (mVar 6) mNil)) (mC (.int 1))) mNil)) (gN 17) mYes (mMeth okS2 cntF (mVar 6) (mCons (mVar 17) mNil)) [17]) mNil)) (mCons (mVar 7) (mCons (mCallF 1 (m__law_leaves 12) (mCons (mVar 1) mNil)) (mCons (mCallF 1 (m__law_deep 12) (mCons (mVar 1) mNil)) (mCons (mCallF 1 (m__law_most 12) (mCons (mVar 1) mNil)) (mCons (mCallF 1 (m__law_likeness 12) (mCons (mVar 1) mNil)) (mCons (mVar 1) mNil)))))))))))
    (mSeq (mIfS (mNot (mTV (mCallF 2 (m__law_same 12) (mCons (mVar 9) (mCons (mVar 10) mNil))))) (mRet (mC (.bl false))) mNext)
    (mSeq (mSet 11 (mCallF 1 m_cuts_of (mCons (mVar 1) mNil)))
    (mSeq (mIfS (mNot (mTV (mCallF 2 (m__law_same 12) (mCons (mLst (mCons (mCallF 1 m_how_many_cuts (mCons (mVar 1) mNil)) (mCons (mCall (fa1 sumF2) (mCons (mLc (mSeqI (mVar 11)) (gN 13) mYes (mBin ixD (mVar 13) (mC (.int 2))) [13]) mNil)) (mCons (mCall (fa1 sumF2) (mCons (mLc (mSeqI (mCallF 2 m_hung_everywhere (mCons (mVar 1) (mCons (mTup mNil) mNil)))) (gTupM 2 (gsCons (gN 19) (gsCons (gN 17) gsNil))) mYes (mVar 17) [19, 17]) mNil)) mNil)))) (mCons (mLst (mCons (mCallF 1 (m__law_cuts 12) (mCons (mVar 1) mNil)) (mCons (mCallF 1 (m__law_cuts 12) (mCons (mVar 1) mNil)) (mCons (mVar 2) mNil)))) mNil))))) (mRet (mC (.bl false))) mNext)
    (mSeq (mIfS (mTB (mBin neD (mLc (mSeqI (mVar 11)) (gTupM 3 (gsCons (gN 15) (gsCons (gN 16) (gsCons (gN 17) gsNil)))) (mTB (mBin neD (mBin addD (mIf (mTB (mBin (isN false) (mVar 15) (mC .non))) (mC (.int 0)) (mCallF 1 m__law_size (mCons (mVar 15) mNil))) (mCall (fa1 sumF2) (mCons (mLc (mSeqI (mVar 16)) (gN 13) mYes (mCallF 1 m__law_size (mCons (mVar 13) mNil)) [13]) mNil))) (mVar 2))) (mC (.int 1)) [15, 16, 17]) (mLst mNil))) (mRet (mC (.bl false))) mNext)
    (mSeq (mSet 12 (mCallF 1 m_middle_nodes (mCons (mVar 1) mNil)))
    (mSeq (mIfS (mOr (mNot (mTB (mChain (cmpD oLe) (cmpD oLe) (mC (.int 1)) (mCall (fa1 lenF) (mCons (mVar 12) mNil)) (mC (.int 2))))) (mTB (mBin neD (mCallF 1 g_free_counts (mCons (mC (.int 4)) mNil)) (mTup (mCons (mC (.int 1)) (mCons (mC (.int 1)) (mCons (mC (.int 1)) (mCons (mC (.int 2)) mNil)))))))) (mRet (mC (.bl false))) mNext)
    (mSeq (mSet 10 (mLc (mRg1I (mCons (mVar 2) mNil)) (gN 14) (mTB (mBin eqD (mLc (mSeqI (mCallF 2 m_root_moved (mCons (mVar 1) (mCons (mVar 14) mNil)))) (gN 18) (mTB (mBin (cmpD oGt) (mBin mulD (mC (.int 2)) (mCallF 1 m__law_size (mCons (mVar 18) mNil))) (mVar 2))) (mC (.int 1)) [18]) (mLst mNil))) (mVar 14) [14]))
    (mRet (mAndV (mBin eqD (mVar 12) (mCall (fa1 tupF) (mCons (mVar 10) mNil))) (mAndV (mBin eqD (mCallF 2 m__law_hung (mCons (mVar 1) (mCons (mTup mNil) mNil))) (mCallF 2 m_hung (mCons (mVar 1) (mCons (mTup mNil) mNil)))) (mBin (inD false) (mCallF 2 m__law_hung (mCons (mVar 1) (mCons (mTup mNil) mNil))) (mCallF 1 m_grown_trees (mCons (mVar 1) mNil)))))))))))))))))))))
theorem c__law_one_right {P : Program} {w : World} {K : PySem.W.Frag} {mg : Str → Option Value} {base : Heap} (T : Top K mg) : CallM P w K mg base 28 2 "_law_one_right" m__law_one_right := by
  obtain ⟨fd, F, hm⟩ := T.def_ 112 (d := dd "_law_one_right" 133) rfl rfl
  refine CallM.flat (call_def (st := top 133) F sc__law_one_right hm rfl rfl (fun _ _ _ _ _ _ us hl => match us, hl with | [_, _], _ => rfl) (fun cdv A outer s H E hr => ?_))
  have S := sc__law_one_right
  exact (iss_cons (is_asg (ie_tup (ia_cons (ie_call (c__law_size T) (hr.mono (by omega)) rfl (ia_cons (ie_var (pv 1)) ia_nil)) (ia_cons (ie_call (c_nodes_of T) (hr.mono (by omega)) rfl (ia_cons (ie_var (pv 1)) ia_nil)) (ia_cons (ie_call (c_nodes_under T) (hr.mono (by omega)) rfl (ia_cons (ie_var (pv 1)) ia_nil)) ia_nil)))) (ij_tup rfl (ijs_cons (ij_name (i := 2) S.nd rfl (.inr rfl)) (ijs_cons (ij_name (i := 3) S.nd rfl (.inl rfl)) (ijs_cons (ij_name (i := 4) S.nd rfl (.inl rfl)) ijs_nil)))))
    (iss_cons (is_set (i := 5) S.nd rfl (.inl rfl) (ie_callTy call_tupD rfl (T.free 129 rfl) (by decide +kernel) (ia_cons (ie_lc (own := [("own", 13)]) rfl S.nd (ii_seq (ie_var (pv 3))) (blkOk_by (by kernel_rfl)) (fun _ _ _ _ _ => (ij_name (i := 13) S.nd rfl (.inl rfl))) (fun _ _ _ _ _ => its_nil) (fun _ _ _ _ _ => (ie_call (c__law_size T) (hr.mono (by omega)) rfl (ia_cons (ie_var (pv 13)) ia_nil))) (by decide)) ia_nil)))
    (iss_cons (is_set (i := 6) S.nd rfl (.inr rfl) (ie_lc (own := [("own", 13)]) rfl S.nd (ii_seq (ie_var (pv 3))) (blkOk_by (by kernel_rfl)) (fun _ _ _ _ _ => (ij_name (i := 13) S.nd rfl (.inl rfl))) (fun _ _ _ _ _ => its_nil) (fun _ _ _ _ _ => (ie_callB call_lenD rfl (T.free 120 rfl) PySem.boot_len (ia_cons (ie_var (pv 13)) ia_nil))) (by decide)))
    (iss_cons (is_set (i := 7) S.nd rfl (.inl rfl) ie_int)
    (iss_cons (is_for rfl PassesOwn.never (ii_rg2 rfl (T.free 124 rfl) (ia_cons ie_int (ia_cons (ie_bin op_addD (ie_var (pv 2)) ie_int) ia_nil))) (ij_name (i := 8) S.nd rfl (.inl rfl)) (iss_one (is_set (i := 7) S.nd rfl (.inl rfl) (ie_bin op_mulD (ie_var (pv 7)) (ie_var (pv 8))))))
    (iss_cons (is_set (i := 9) S.nd rfl (.inl rfl) (ie_lst (ia_cons (ie_call (c_node_sizes T) (hr.mono (by omega)) rfl (ia_cons (ie_var (pv 1)) ia_nil)) (ia_cons (ie_lc (own := [("own", 13)]) rfl S.nd (ii_seq (ie_var (pv 4))) (blkOk_by (by kernel_rfl)) (fun _ _ _ _ _ => (ij_name (i := 13) S.nd rfl (.inl rfl))) (fun _ _ _ _ _ => its_nil) (fun _ _ _ _ _ => (ie_callB call_lenD rfl (T.free 120 rfl) PySem.boot_len (ia_cons (ie_var (pv 13)) ia_nil))) (by decide)) (ia_cons (ie_call (c_hanging_counts T) (hr.mono (by omega)) rfl (ia_cons (ie_call (c__law_lists T 12) (hr.mono (by omega)) rfl (ia_cons (ie_var (pv 1)) ia_nil)) ia_nil)) (ia_cons (ie_bin op_mulD (ie_call (c_how_many_orders T) (hr.mono (by omega)) rfl (ia_cons (ie_var (pv 1)) ia_nil)) (ie_call (c__law_density T 12) (hr.mono (by omega)) rfl (ia_cons (ie_var (pv 1)) ia_nil))) (ia_cons (ie_call (c_leaves_of T) (hr.mono (by omega)) rfl (ia_cons (ie_var (pv 1)) ia_nil)) (ia_cons (ie_call (c_depth_of T) (hr.mono (by omega)) rfl (ia_cons (ie_var (pv 1)) ia_nil)) (ia_cons (ie_call (c_most_hanging T) (hr.mono (by omega)) rfl (ia_cons (ie_var (pv 1)) ia_nil)) (ia_cons (ie_call (c_likeness T) (hr.mono (by omega)) rfl (ia_cons (ie_var (pv 1)) ia_nil)) (ia_cons (ie_ix (ie_var (pv 3)) ie_int) ia_nil)))))))))))
    (iss_cons (is_set (i := 10) S.nd rfl (.inl rfl) (ie_lst (ia_cons (ie_var (pv 5)) (ia_cons (ie_var (pv 6)) (ia_cons (ie_callTy call_tupD rfl (T.free 129 rfl) (by decide +kernel) (ia_cons (ie_lc (own := [("much", 17)]) rfl S.nd (ii_rg1 rfl (T.free 124 rfl) (ia_cons (ie_bin op_addD (ie_callB (call_maxD2 rfl hr.u70) rfl (T.free 122 rfl) (by decide +kernel) (ia_cons (ie_var (pv 6)) ia_nil)) ie_int) ia_nil)) (blkOk_by (by kernel_rfl)) (fun _ _ _ _ _ => (ij_name (i := 17) S.nd rfl (.inl rfl))) (fun _ _ _ _ _ => its_nil) (fun _ _ _ _ _ => (ie_meth (mt_cntD hr.u70) (ie_var (pv 6)) (ia_cons (ie_var (pv 17)) ia_nil))) (by decide)) ia_nil)) (ia_cons (ie_var (pv 7)) (ia_cons (ie_call (c__law_leaves T 12) (hr.mono (by omega)) rfl (ia_cons (ie_var (pv 1)) ia_nil)) (ia_cons (ie_call (c__law_deep T 12) (hr.mono (by omega)) rfl (ia_cons (ie_var (pv 1)) ia_nil)) (ia_cons (ie_call (c__law_most T 12) (hr.mono (by omega)) rfl (ia_cons (ie_var (pv 1)) ia_nil)) (ia_cons (ie_call (c__law_likeness T 12) (hr.mono (by omega)) rfl (ia_cons (ie_var (pv 1)) ia_nil)) (ia_cons (ie_var (pv 1)) ia_nil)))))))))))
    (iss_cons (is_if (it_not (it_val (ie_call (c__law_same T 12) (hr.mono (by omega)) rfl (ia_cons (ie_var (pv 9)) (ia_cons (ie_var (pv 10)) ia_nil))))) (iss_one (is_ret ie_bl)) iss_nil)
    (iss_cons (is_set (i := 11) S.nd rfl (.inl rfl) (ie_call (c_cuts_of T) (hr.mono (by omega)) rfl (ia_cons (ie_var (pv 1)) ia_nil)))
    (iss_cons (is_if (it_not (it_val (ie_call (c__law_same T 12) (hr.mono (by omega)) rfl (ia_cons (ie_lst (ia_cons (ie_call (c_how_many_cuts T) (hr.mono (by omega)) rfl (ia_cons (ie_var (pv 1)) ia_nil)) (ia_cons (ie_callB (call_sumD2 rfl) rfl (T.free 128 rfl) (by decide +kernel) (ia_cons (ie_lc (own := [("own", 13)]) rfl S.nd (ii_seq (ie_var (pv 11))) (blkOk_by (by kernel_rfl)) (fun _ _ _ _ _ => (ij_name (i := 13) S.nd rfl (.inl rfl))) (fun _ _ _ _ _ => its_nil) (fun _ _ _ _ _ => (ie_ix (ie_var (pv 13)) ie_int)) (by decide)) ia_nil)) (ia_cons (ie_callB (call_sumD2 rfl) rfl (T.free 128 rfl) (by decide +kernel) (ia_cons (ie_lc (own := [("one", 19), ("much", 17)]) rfl S.nd (ii_seq (ie_call (c_hung_everywhere T) (hr.mono (by omega)) rfl (ia_cons (ie_var (pv 1)) (ia_cons (ie_tup ia_nil) ia_nil)))) (blkOk_by (by kernel_rfl)) (fun _ _ _ _ _ => (ij_tup rfl (ijs_cons (ij_name (i := 19) S.nd rfl (.inl rfl)) (ijs_cons (ij_name (i := 17) S.nd rfl (.inl rfl)) ijs_nil)))) (fun _ _ _ _ _ => its_nil) (fun _ _ _ _ _ => (ie_var (pv 17))) (by decide)) ia_nil)) ia_nil)))) (ia_cons (ie_lst (ia_cons (ie_call (c__law_cuts T 12) (hr.mono (by omega)) rfl (ia_cons (ie_var (pv 1)) ia_nil)) (ia_cons (ie_call (c__law_cuts T 12) (hr.mono (by omega)) rfl (ia_cons (ie_var (pv 1)) ia_nil)) (ia_cons (ie_var (pv 2)) ia_nil)))) ia_nil))))) (iss_one (is_ret ie_bl)) iss_nil)
    (iss_cons (is_if (it_cmp (op_neDD hr.u64) (ie_lc (own := [("stump", 15), ("fallen", 16), ("much", 17)]) rfl S.nd (ii_seq (ie_var (pv 11))) (blkOk_by (by kernel_rfl)) (fun _ _ _ _ _ => (ij_tup rfl (ijs_cons (ij_name (i := 15) S.nd rfl (.inl rfl)) (ijs_cons (ij_name (i := 16) S.nd rfl (.inl rfl)) (ijs_cons (ij_name (i := 17) S.nd rfl (.inl rfl)) ijs_nil))))) (fun _ _ _ _ _ => (its_one (it_cmp (op_neDD hr.u64) (ie_bin op_addD (ie_if (it_cmp op_isD (ie_var (pv 15)) ie_non) ie_int (ie_call (c__law_size T) (hr.mono (by omega)) rfl (ia_cons (ie_var (pv 15)) ia_nil))) (ie_callB (call_sumD2 rfl) rfl (T.free 128 rfl) (by decide +kernel) (ia_cons (ie_lc (own := [("own", 13)]) rfl S.nd (ii_seq (ie_var (pv 16))) (blkOk_by (by kernel_rfl)) (fun _ _ _ _ _ => (ij_name (i := 13) S.nd rfl (.inl rfl))) (fun _ _ _ _ _ => its_nil) (fun _ _ _ _ _ => (ie_call (c__law_size T) (hr.mono (by omega)) rfl (ia_cons (ie_var (pv 13)) ia_nil))) (by decide)) ia_nil))) (ie_var (pv 2))))) (fun _ _ _ _ _ => ie_int) (by decide)) (ie_lst ia_nil)) (iss_one (is_ret ie_bl)) iss_nil)
    (iss_cons (is_set (i := 12) S.nd rfl (.inl rfl) (ie_call (c_middle_nodes T) (hr.mono (by omega)) rfl (ia_cons (ie_var (pv 1)) ia_nil)))
    (iss_cons (is_if (it_w (iw_or (it_not (it_chain (op_leD hr.u64) (op_leD hr.u64) ie_int (ie_callB call_lenD rfl (T.free 120 rfl) PySem.boot_len (ia_cons (ie_var (pv 12)) ia_nil)) ie_int)) (iw_or1 (it_cmp (op_neDD hr.u64) (ie_call (o_free_counts T) (hr.mono (by omega)) rfl (ia_cons ie_int ia_nil)) (ie_tup (ia_cons ie_int (ia_cons ie_int (ia_cons ie_int (ia_cons ie_int ia_nil))))))))) (iss_one (is_ret ie_bl)) iss_nil)
    (iss_cons (is_setLc (i := 10) (own := [("node", 14)]) rfl S.nd rfl rfl (sw_true rfl rfl rfl (by decide +kernel)) (ii_rg1 rfl (T.free 124 rfl) (ia_cons (ie_var (pv 2)) ia_nil)) (blkOk_by (by kernel_rfl)) (fun _ _ _ _ _ => (ij_name (i := 14) S.nd rfl (.inl rfl))) (fun _ _ _ _ _ => (its_one (it_cmp (op_eqDD hr.u64) (ie_lc (own := [("part", 18)]) rfl S.nd (ii_seq (ie_call (c_root_moved T) (hr.mono (by omega)) rfl (ia_cons (ie_var (pv 1)) (ia_cons (ie_var (pv 14)) ia_nil)))) (blkOk_by (by kernel_rfl)) (fun _ _ _ _ _ => (ij_name (i := 18) S.nd rfl (.inl rfl))) (fun _ _ _ _ _ => (its_one (it_cmp (op_gtD hr.u64) (ie_bin op_mulD ie_int (ie_call (c__law_size T) (hr.mono (by omega)) rfl (ia_cons (ie_var (pv 18)) ia_nil))) (ie_var (pv 2))))) (fun _ _ _ _ _ => ie_int) (by decide)) (ie_lst ia_nil)))) (fun _ _ _ _ _ => (ie_var (pv 14))) (by decide))
    (iss_one (is_ret (ie_and (ie_cmp (op_eqDD hr.u64) (ie_var (pv 12)) (ie_callTy call_tupD rfl (T.free 129 rfl) (by decide +kernel) (ia_cons (ie_var (pv 10)) ia_nil))) (ie_and (ie_cmp (op_eqDD hr.u64) (ie_call (c__law_hung T) (hr.mono (by omega)) rfl (ia_cons (ie_var (pv 1)) (ia_cons (ie_tup ia_nil) ia_nil))) (ie_call (c_hung T) (hr.mono (by omega)) rfl (ia_cons (ie_var (pv 1)) (ia_cons (ie_tup ia_nil) ia_nil)))) (ie_one (ie_cmp (op_inDD hr.u65) (ie_call (c__law_hung T) (hr.mono (by omega)) rfl (ia_cons (ie_var (pv 1)) (ia_cons (ie_tup ia_nil) ia_nil))) (ie_call (c_grown_trees T) (hr.mono (by omega)) rfl (ia_cons (ie_var (pv 1)) ia_nil))))))))))))))))))))))
theorem right_0 (n : Nat) : pickB (m__law_one_right [.ref 0, .tup []] (oneH (.box n))) = some (.box n) := by kernel_rfl
theorem right_1 (n : Nat) : pickB (m__law_one_right [.ref 0, .tup [.tup []]] (oneH (.box n))) = some (.box n) := by kernel_rfl
theorem right_2 (n : Nat) : pickB (m__law_one_right [.ref 0, .tup [.tup [], .tup []]] (oneH (.box n))) = some (.box n) := by kernel_rfl
theorem right_3 (n : Nat) : pickB (m__law_one_right [.ref 0, .tup [.tup [.tup []]]] (oneH (.box n))) = some (.box n) := by kernel_rfl
theorem right_4 (n : Nat) : pickB (m__law_one_right [.ref 0, .tup [.tup [], .tup [], .tup []]] (oneH (.box n))) = some (.box n) := by kernel_rfl
theorem right_5 (n : Nat) : pickB (m__law_one_right [.ref 0, .tup [.tup [], .tup [.tup []]]] (oneH (.box n))) = some (.box n) := by kernel_rfl
theorem right_6 (n : Nat) : pickB (m__law_one_right [.ref 0, .tup [.tup [.tup [], .tup []]]] (oneH (.box n))) = some (.box n) := by kernel_rfl
theorem right_7 (n : Nat) : pickB (m__law_one_right [.ref 0, .tup [.tup [.tup [.tup []]]]] (oneH (.box n))) = some (.box n) := by kernel_rfl
theorem right_8 (n : Nat) : pickB (m__law_one_right [.ref 0, .tup [.tup [], .tup [], .tup [], .tup []]] (oneH (.box n))) = some (.box n) := by kernel_rfl
theorem right_9 (n : Nat) : pickB (m__law_one_right [.ref 0, .tup [.tup [], .tup [], .tup [.tup []]]] (oneH (.box n))) = some (.box n) := by kernel_rfl
theorem right_10 (n : Nat) : pickB (m__law_one_right [.ref 0, .tup [.tup [], .tup [.tup [], .tup []]]] (oneH (.box n))) = some (.box n) := by kernel_rfl
theorem right_11 (n : Nat) : pickB (m__law_one_right [.ref 0, .tup [.tup [], .tup [.tup [.tup []]]]] (oneH (.box n))) = some (.box n) := by kernel_rfl
theorem right_12 (n : Nat) : pickB (m__law_one_right [.ref 0, .tup [.tup [.tup []], .tup [.tup []]]] (oneH (.box n))) = some (.box n) := by kernel_rfl
theorem right_13 (n : Nat) : pickB (m__law_one_right [.ref 0, .tup [.tup [.tup [], .tup [], .tup []]]] (oneH (.box n))) = some (.box n) := by kernel_rfl
theorem right_14 (n : Nat) : pickB (m__law_one_right [.ref 0, .tup [.tup [.tup [], .tup [.tup []]]]] (oneH (.box n))) = some (.box n) := by kernel_rfl
theorem right_15 (n : Nat) : pickB (m__law_one_right [.ref 0, .tup [.tup [.tup [.tup [], .tup []]]]] (oneH (.box n))) = some (.box n) := by kernel_rfl
theorem right_16 (n : Nat) : pickB (m__law_one_right [.ref 0, .tup [.tup [.tup [.tup [.tup []]]]]] (oneH (.box n))) = some (.box n) := by kernel_rfl
theorem right_17 (n : Nat) : pickB (m__law_one_right [.ref 0, .tup [.tup [], .tup [], .tup [], .tup [], .tup []]] (oneH (.box n))) = some (.box n) := by kernel_rfl
theorem right_18 (n : Nat) : pickB (m__law_one_right [.ref 0, .tup [.tup [], .tup [], .tup [], .tup [.tup []]]] (oneH (.box n))) = some (.box n) := by kernel_rfl
theorem right_19 (n : Nat) : pickB (m__law_one_right [.ref 0, .tup [.tup [], .tup [], .tup [.tup [], .tup []]]] (oneH (.box n))) = some (.box n) := by kernel_rfl
theorem right_20 (n : Nat) : pickB (m__law_one_right [.ref 0, .tup [.tup [], .tup [], .tup [.tup [.tup []]]]] (oneH (.box n))) = some (.box n) := by kernel_rfl
theorem right_21 (n : Nat) : pickB (m__law_one_right [.ref 0, .tup [.tup [], .tup [.tup []], .tup [.tup []]]] (oneH (.box n))) = some (.box n) := by kernel_rfl
theorem right_22 (n : Nat) : pickB (m__law_one_right [.ref 0, .tup [.tup [], .tup [.tup [], .tup [], .tup []]]] (oneH (.box n))) = some (.box n) := by kernel_rfl
theorem right_23 (n : Nat) : pickB (m__law_one_right [.ref 0, .tup [.tup [], .tup [.tup [], .tup [.tup []]]]] (oneH (.box n))) = some (.box n) := by kernel_rfl
theorem right_24 (n : Nat) : pickB (m__law_one_right [.ref 0, .tup [.tup [], .tup [.tup [.tup [], .tup []]]]] (oneH (.box n))) = some (.box n) := by kernel_rfl
theorem right_25 (n : Nat) : pickB (m__law_one_right [.ref 0, .tup [.tup [], .tup [.tup [.tup [.tup []]]]]] (oneH (.box n))) = some (.box n) := by kernel_rfl
theorem right_26 (n : Nat) : pickB (m__law_one_right [.ref 0, .tup [.tup [.tup []], .tup [.tup [], .tup []]]] (oneH (.box n))) = some (.box n) := by kernel_rfl
theorem right_27 (n : Nat) : pickB (m__law_one_right [.ref 0, .tup [.tup [.tup []], .tup [.tup [.tup []]]]] (oneH (.box n))) = some (.box n) := by kernel_rfl
theorem right_28 (n : Nat) : pickB (m__law_one_right [.ref 0, .tup [.tup [.tup [], .tup [], .tup [], .tup []]]] (oneH (.box n))) = some (.box n) := by kernel_rfl
theorem right_29 (n : Nat) : pickB (m__law_one_right [.ref 0, .tup [.tup [.tup [], .tup [], .tup [.tup []]]]] (oneH (.box n))) = some (.box n) := by kernel_rfl
theorem right_30 (n : Nat) : pickB (m__law_one_right [.ref 0, .tup [.tup [.tup [], .tup [.tup [], .tup []]]]] (oneH (.box n))) = some (.box n) := by kernel_rfl
theorem right_31 (n : Nat) : pickB (m__law_one_right [.ref 0, .tup [.tup [.tup [], .tup [.tup [.tup []]]]]] (oneH (.box n))) = some (.box n) := by kernel_rfl
theorem right_32 (n : Nat) : pickB (m__law_one_right [.ref 0, .tup [.tup [.tup [.tup []], .tup [.tup []]]]] (oneH (.box n))) = some (.box n) := by kernel_rfl
theorem right_33 (n : Nat) : pickB (m__law_one_right [.ref 0, .tup [.tup [.tup [.tup [], .tup [], .tup []]]]] (oneH (.box n))) = some (.box n) := by kernel_rfl
theorem right_34 (n : Nat) : pickB (m__law_one_right [.ref 0, .tup [.tup [.tup [.tup [], .tup [.tup []]]]]] (oneH (.box n))) = some (.box n) := by kernel_rfl
theorem right_35 (n : Nat) : pickB (m__law_one_right [.ref 0, .tup [.tup [.tup [.tup [.tup [], .tup []]]]]] (oneH (.box n))) = some (.box n) := by kernel_rfl
theorem right_36 (n : Nat) : pickB (m__law_one_right [.ref 0, .tup [.tup [.tup [.tup [.tup [.tup []]]]]]] (oneH (.box n))) = some (.box n) := by kernel_rfl
theorem right_37 (n : Nat) : pickB (m__law_one_right [.ref 0, .tup [.tup [], .tup [], .tup [], .tup [], .tup [], .tup []]] (oneH (.box n))) = some (.box n) := by kernel_rfl
theorem right_38 (n : Nat) : pickB (m__law_one_right [.ref 0, .tup [.tup [], .tup [], .tup [], .tup [], .tup [.tup []]]] (oneH (.box n))) = some (.box n) := by kernel_rfl
theorem right_39 (n : Nat) : pickB (m__law_one_right [.ref 0, .tup [.tup [], .tup [], .tup [], .tup [.tup [], .tup []]]] (oneH (.box n))) = some (.box n) := by kernel_rfl
theorem right_40 (n : Nat) : pickB (m__law_one_right [.ref 0, .tup [.tup [], .tup [], .tup [], .tup [.tup [.tup []]]]] (oneH (.box n))) = some (.box n) := by kernel_rfl
theorem right_41 (n : Nat) : pickB (m__law_one_right [.ref 0, .tup [.tup [], .tup [], .tup [.tup []], .tup [.tup []]]] (oneH (.box n))) = some (.box n) := by kernel_rfl
theorem right_42 (n : Nat) : pickB (m__law_one_right [.ref 0, .tup [.tup [], .tup [], .tup [.tup [], .tup [], .tup []]]] (oneH (.box n))) = some (.box n) := by kernel_rfl
theorem right_43 (n : Nat) : pickB (m__law_one_right [.ref 0, .tup [.tup [], .tup [], .tup [.tup [], .tup [.tup []]]]] (oneH (.box n))) = some (.box n) := by kernel_rfl
theorem right_44 (n : Nat) : pickB (m__law_one_right [.ref 0, .tup [.tup [], .tup [], .tup [.tup [.tup [], .tup []]]]] (oneH (.box n))) = some (.box n) := by kernel_rfl
theorem right_45 (n : Nat) : pickB (m__law_one_right [.ref 0, .tup [.tup [], .tup [], .tup [.tup [.tup [.tup []]]]]] (oneH (.box n))) = some (.box n) := by kernel_rfl
theorem right_46 (n : Nat) : pickB (m__law_one_right [.ref 0, .tup [.tup [], .tup [.tup []], .tup [.tup [], .tup []]]] (oneH (.box n))) = some (.box n) := by kernel_rfl
theorem right_47 (n : Nat) : pickB (m__law_one_right [.ref 0, .tup [.tup [], .tup [.tup []], .tup [.tup [.tup []]]]] (oneH (.box n))) = some (.box n) := by kernel_rfl
theorem right_48 (n : Nat) : pickB (m__law_one_right [.ref 0, .tup [.tup [], .tup [.tup [], .tup [], .tup [], .tup []]]] (oneH (.box n))) = some (.box n) := by kernel_rfl
theorem right_49 (n : Nat) : pickB (m__law_one_right [.ref 0, .tup [.tup [], .tup [.tup [], .tup [], .tup [.tup []]]]] (oneH (.box n))) = some (.box n) := by kernel_rfl
theorem right_50 (n : Nat) : pickB (m__law_one_right [.ref 0, .tup [.tup [], .tup [.tup [], .tup [.tup [], .tup []]]]] (oneH (.box n))) = some (.box n) := by kernel_rfl
theorem right_51 (n : Nat) : pickB (m__law_one_right [.ref 0, .tup [.tup [], .tup [.tup [], .tup [.tup [.tup []]]]]] (oneH (.box n))) = some (.box n) := by kernel_rfl
theorem right_52 (n : Nat) : pickB (m__law_one_right [.ref 0, .tup [.tup [], .tup [.tup [.tup []], .tup [.tup []]]]] (oneH (.box n))) = some (.box n) := by kernel_rfl
theorem right_53 (n : Nat) : pickB (m__law_one_right [.ref 0, .tup [.tup [], .tup [.tup [.tup [], .tup [], .tup []]]]] (oneH (.box n))) = some (.box n) := by kernel_rfl
theorem right_54 (n : Nat) : pickB (m__law_one_right [.ref 0, .tup [.tup [], .tup [.tup [.tup [], .tup [.tup []]]]]] (oneH (.box n))) = some (.box n) := by kernel_rfl
theorem right_55 (n : Nat) : pickB (m__law_one_right [.ref 0, .tup [.tup [], .tup [.tup [.tup [.tup [], .tup []]]]]] (oneH (.box n))) = some (.box n) := by kernel_rfl
theorem right_56 (n : Nat) : pickB (m__law_one_right [.ref 0, .tup [.tup [], .tup [.tup [.tup [.tup [.tup []]]]]]] (oneH (.box n))) = some (.box n) := by kernel_rfl
theorem right_57 (n : Nat) : pickB (m__law_one_right [.ref 0, .tup [.tup [.tup []], .tup [.tup []], .tup [.tup []]]] (oneH (.box n))) = some (.box n) := by kernel_rfl
theorem right_58 (n : Nat) : pickB (m__law_one_right [.ref 0, .tup [.tup [.tup []], .tup [.tup [], .tup [], .tup []]]] (oneH (.box n))) = some (.box n) := by kernel_rfl
theorem right_59 (n : Nat) : pickB (m__law_one_right [.ref 0, .tup [.tup [.tup []], .tup [.tup [], .tup [.tup []]]]] (oneH (.box n))) = some (.box n) := by kernel_rfl
theorem right_60 (n : Nat) : pickB (m__law_one_right [.ref 0, .tup [.tup [.tup []], .tup [.tup [.tup [], .tup []]]]] (oneH (.box n))) = some (.box n) := by kernel_rfl
theorem right_61 (n : Nat) : pickB (m__law_one_right [.ref 0, .tup [.tup [.tup []], .tup [.tup [.tup [.tup []]]]]] (oneH (.box n))) = some (.box n) := by kernel_rfl
theorem right_62 (n : Nat) : pickB (m__law_one_right [.ref 0, .tup [.tup [.tup [], .tup []], .tup [.tup [], .tup []]]] (oneH (.box n))) = some (.box n) := by kernel_rfl
theorem right_63 (n : Nat) : pickB (m__law_one_right [.ref 0, .tup [.tup [.tup [], .tup []], .tup [.tup [.tup []]]]] (oneH (.box n))) = some (.box n) := by kernel_rfl
theorem right_64 (n : Nat) : pickB (m__law_one_right [.ref 0, .tup [.tup [.tup [], .tup [], .tup [], .tup [], .tup []]]] (oneH (.box n))) = some (.box n) := by kernel_rfl
theorem right_65 (n : Nat) : pickB (m__law_one_right [.ref 0, .tup [.tup [.tup [], .tup [], .tup [], .tup [.tup []]]]] (oneH (.box n))) = some (.box n) := by kernel_rfl
theorem right_66 (n : Nat) : pickB (m__law_one_right [.ref 0, .tup [.tup [.tup [], .tup [], .tup [.tup [], .tup []]]]] (oneH (.box n))) = some (.box n) := by kernel_rfl
theorem right_67 (n : Nat) : pickB (m__law_one_right [.ref 0, .tup [.tup [.tup [], .tup [], .tup [.tup [.tup []]]]]] (oneH (.box n))) = some (.box n) := by kernel_rfl
theorem right_68 (n : Nat) : pickB (m__law_one_right [.ref 0, .tup [.tup [.tup [], .tup [.tup []], .tup [.tup []]]]] (oneH (.box n))) = some (.box n) := by kernel_rfl
theorem right_69 (n : Nat) : pickB (m__law_one_right [.ref 0, .tup [.tup [.tup [], .tup [.tup [], .tup [], .tup []]]]] (oneH (.box n))) = some (.box n) := by kernel_rfl
theorem right_70 (n : Nat) : pickB (m__law_one_right [.ref 0, .tup [.tup [.tup [], .tup [.tup [], .tup [.tup []]]]]] (oneH (.box n))) = some (.box n) := by kernel_rfl
theorem right_71 (n : Nat) : pickB (m__law_one_right [.ref 0, .tup [.tup [.tup [], .tup [.tup [.tup [], .tup []]]]]] (oneH (.box n))) = some (.box n) := by kernel_rfl
theorem right_72 (n : Nat) : pickB (m__law_one_right [.ref 0, .tup [.tup [.tup [], .tup [.tup [.tup [.tup []]]]]]] (oneH (.box n))) = some (.box n) := by kernel_rfl
theorem right_73 (n : Nat) : pickB (m__law_one_right [.ref 0, .tup [.tup [.tup [.tup []]], .tup [.tup [.tup []]]]] (oneH (.box n))) = some (.box n) := by kernel_rfl
theorem right_74 (n : Nat) : pickB (m__law_one_right [.ref 0, .tup [.tup [.tup [.tup []], .tup [.tup [], .tup []]]]] (oneH (.box n))) = some (.box n) := by kernel_rfl
theorem right_75 (n : Nat) : pickB (m__law_one_right [.ref 0, .tup [.tup [.tup [.tup []], .tup [.tup [.tup []]]]]] (oneH (.box n))) = some (.box n) := by kernel_rfl
theorem right_76 (n : Nat) : pickB (m__law_one_right [.ref 0, .tup [.tup [.tup [.tup [], .tup [], .tup [], .tup []]]]] (oneH (.box n))) = some (.box n) := by kernel_rfl
theorem right_77 (n : Nat) : pickB (m__law_one_right [.ref 0, .tup [.tup [.tup [.tup [], .tup [], .tup [.tup []]]]]] (oneH (.box n))) = some (.box n) := by kernel_rfl
theorem right_78 (n : Nat) : pickB (m__law_one_right [.ref 0, .tup [.tup [.tup [.tup [], .tup [.tup [], .tup []]]]]] (oneH (.box n))) = some (.box n) := by kernel_rfl
theorem right_79 (n : Nat) : pickB (m__law_one_right [.ref 0, .tup [.tup [.tup [.tup [], .tup [.tup [.tup []]]]]]] (oneH (.box n))) = some (.box n) := by kernel_rfl
theorem right_80 (n : Nat) : pickB (m__law_one_right [.ref 0, .tup [.tup [.tup [.tup [.tup []], .tup [.tup []]]]]] (oneH (.box n))) = some (.box n) := by kernel_rfl
theorem right_81 (n : Nat) : pickB (m__law_one_right [.ref 0, .tup [.tup [.tup [.tup [.tup [], .tup [], .tup []]]]]] (oneH (.box n))) = some (.box n) := by kernel_rfl
theorem right_82 (n : Nat) : pickB (m__law_one_right [.ref 0, .tup [.tup [.tup [.tup [.tup [], .tup [.tup []]]]]]] (oneH (.box n))) = some (.box n) := by kernel_rfl
theorem right_83 (n : Nat) : pickB (m__law_one_right [.ref 0, .tup [.tup [.tup [.tup [.tup [.tup [], .tup []]]]]]] (oneH (.box n))) = some (.box n) := by kernel_rfl
theorem right_84 (n : Nat) : pickB (m__law_one_right [.ref 0, .tup [.tup [.tup [.tup [.tup [.tup [.tup []]]]]]]] (oneH (.box n))) = some (.box n) := by kernel_rfl
theorem right_at : ∀ t ∈ forest, ∀ n : Nat, pickB (m__law_one_right [.ref 0, t] (oneH (.box n))) = some (.box n) :=
  List.forall_mem_cons.mpr ⟨right_0, List.forall_mem_cons.mpr ⟨right_1, List.forall_mem_cons.mpr ⟨right_2, List.forall_mem_cons.mpr ⟨right_3, List.forall_mem_cons.mpr ⟨right_4, List.forall_mem_cons.mpr ⟨right_5, List.forall_mem_cons.mpr ⟨right_6, List.forall_mem_cons.mpr ⟨right_7, List.forall_mem_cons.mpr ⟨right_8, List.forall_mem_cons.mpr ⟨right_9, List.forall_mem_cons.mpr ⟨right_10, List.forall_mem_cons.mpr ⟨right_11, List.forall_mem_cons.mpr ⟨right_12, List.forall_mem_cons.mpr ⟨right_13, List.forall_mem_cons.mpr ⟨right_14, List.forall_mem_cons.mpr ⟨right_15, List.forall_mem_cons.mpr ⟨right_16, List.forall_mem_cons.mpr ⟨right_17, List.forall_mem_cons.mpr ⟨right_18, List.forall_mem_cons.mpr ⟨right_19, List.forall_mem_cons.mpr ⟨right_20, List.forall_mem_cons.mpr ⟨right_21, List.forall_mem_cons.mpr ⟨right_22, List.forall_mem_cons.mpr ⟨right_23, List.forall_mem_cons.mpr ⟨right_24, List.forall_mem_cons.mpr ⟨right_25, List.forall_mem_cons.mpr ⟨right_26, List.forall_mem_cons.mpr ⟨right_27, List.forall_mem_cons.mpr ⟨right_28, List.forall_mem_cons.mpr ⟨right_29, List.forall_mem_cons.mpr ⟨right_30, List.forall_mem_cons.mpr ⟨right_31, List.forall_mem_cons.mpr ⟨right_32, List.forall_mem_cons.mpr ⟨right_33, List.forall_mem_cons.mpr ⟨right_34, List.forall_mem_cons.mpr ⟨right_35, List.forall_mem_cons.mpr ⟨right_36, List.forall_mem_cons.mpr ⟨right_37, List.forall_mem_cons.mpr ⟨right_38, List.forall_mem_cons.mpr ⟨right_39, List.forall_mem_cons.mpr ⟨right_40, List.forall_mem_cons.mpr ⟨right_41, List.forall_mem_cons.mpr ⟨right_42, List.forall_mem_cons.mpr ⟨right_43, List.forall_mem_cons.mpr ⟨right_44, List.forall_mem_cons.mpr ⟨right_45, List.forall_mem_cons.mpr ⟨right_46, List.forall_mem_cons.mpr ⟨right_47, List.forall_mem_cons.mpr ⟨right_48, List.forall_mem_cons.mpr ⟨right_49, List.forall_mem_cons.mpr ⟨right_50, List.forall_mem_cons.mpr ⟨right_51, List.forall_mem_cons.mpr ⟨right_52, List.forall_mem_cons.mpr ⟨right_53, List.forall_mem_cons.mpr ⟨right_54, List.forall_mem_cons.mpr ⟨right_55, List.forall_mem_cons.mpr ⟨right_56, List.forall_mem_cons.mpr ⟨right_57, List.forall_mem_cons.mpr ⟨right_58, List.forall_mem_cons.mpr ⟨right_59, List.forall_mem_cons.mpr ⟨right_60, List.forall_mem_cons.mpr ⟨right_61, List.forall_mem_cons.mpr ⟨right_62, List.forall_mem_cons.mpr ⟨right_63, List.forall_mem_cons.mpr ⟨right_64, List.forall_mem_cons.mpr ⟨right_65, List.forall_mem_cons.mpr ⟨right_66, List.forall_mem_cons.mpr ⟨right_67, List.forall_mem_cons.mpr ⟨right_68, List.forall_mem_cons.mpr ⟨right_69, List.forall_mem_cons.mpr ⟨right_70, List.forall_mem_cons.mpr ⟨right_71, List.forall_mem_cons.mpr ⟨right_72, List.forall_mem_cons.mpr ⟨right_73, List.forall_mem_cons.mpr ⟨right_74, List.forall_mem_cons.mpr ⟨right_75, List.forall_mem_cons.mpr ⟨right_76, List.forall_mem_cons.mpr ⟨right_77, List.forall_mem_cons.mpr ⟨right_78, List.forall_mem_cons.mpr ⟨right_79, List.forall_mem_cons.mpr ⟨right_80, List.forall_mem_cons.mpr ⟨right_81, List.forall_mem_cons.mpr ⟨right_82, List.forall_mem_cons.mpr ⟨right_83, List.forall_mem_cons.mpr ⟨right_84, fun _ h => (nomatch h)⟩⟩⟩⟩⟩⟩⟩⟩⟩⟩⟩⟩⟩⟩⟩⟩⟩⟩⟩⟩⟩⟩⟩⟩⟩⟩⟩⟩⟩⟩⟩⟩⟩⟩⟩⟩⟩⟩⟩⟩⟩⟩⟩⟩⟩⟩⟩⟩⟩⟩⟩⟩⟩⟩⟩⟩⟩⟩⟩⟩⟩⟩⟩⟩⟩⟩⟩⟩⟩⟩⟩⟩⟩⟩⟩⟩⟩⟩⟩⟩⟩⟩⟩⟩⟩
def g__law_one_right : FA := sameF forest
theorem o__law_one_right {P : Program} {w : World} {K : PySem.W.Frag} {mg : Str → Option Value} {base : Heap} (T : Top K mg) : CallM P w K mg base 28 2 "_law_one_right" g__law_one_right := (c__law_one_right T).same forest_flat right_at

theorem sc_law : FnScope ["script", "tin", "many", "lap"] ["script"] (defScope (top 134)) := ⟨rfl, rfl, rfl, by decide +kernel, rfl, by decide +kernel, by decide +kernel⟩
def m_law : FA := (mDef 3
    (mSeq (mSet 1 (mCallF 2 m__law_box (mCons (mCallF 2 m__law_cells (mCons (mVar 0) (mCons (mC (.int 1)) mNil))) (mCons (mC (.int 0)) mNil))))
    (mSeq (mSet 2 (mBin addD (mC (.int 1)) (mCallF 2 g__law_take (mCons (mVar 1) (mCons (mC (.int 7)) mNil)))))
    (mSeq (mIfS (mOr (mNot (mTV (mCallF 2 g__law_lists_right (mCons (mVar 1) (mCons (mVar 2) mNil))))) (mOr (mNot (mTV (mCallF 1 g__law_lots_right (mCons (mVar 2) mNil)))) (mNot (mTV (mCallF 1 g__law_colours_right (mCons (mBin addD (mC (.int 1)) (mCallF 2 g__law_take (mCons (mVar 1) (mCons (mC (.int 4)) mNil)))) mNil)))))) (mRet (mC (.bl false))) mNext)
    (mSeq (mFor (mRg1I (mCons (mC (.int 3)) mNil)) (gN 3) (mIfS (mNot (mTV (mCallF 2 g__law_one_right (mCons (mVar 1) (mCons (mCallF 2 g__law_tree (mCons (mVar 1) (mCons (mC (.int 7)) mNil))) mNil))))) (mRet (mC (.bl false))) mNext))
    (mRet (mC (.bl true))))))))
theorem e_law {P : Program} {w : World} {K : PySem.W.Frag} {mg : Str → Option Value} {base : Heap} (T : Top K mg) {a : Addr} {fd : FuncData} (F : FunD K "law" "law" (defArgs (top 134)) (defBody (top 134)) (defScope (top 134)) [] [] a fd) : FnG P w K mg base 29 a fd ["script"] (spM P w K 1 m_law) := by
  refine fnG_def (st := top 134) F sc_law rfl rfl (fun cdv A outer s H E hr => ?_)
  have S := sc_law
  exact (iss_cons (is_set (i := 1) S.nd rfl (.inl rfl) (ie_call (c__law_box T) (hr.mono (by omega)) rfl (ia_cons (ie_call (c__law_cells T) (hr.mono (by omega)) rfl (ia_cons (ie_var (pv 0)) (ia_cons ie_int ia_nil))) (ia_cons ie_int ia_nil))))
    (iss_cons (is_set (i := 2) S.nd rfl (.inl rfl) (ie_bin op_addD ie_int (ie_call (o__law_take T) (hr.mono (by omega)) rfl (ia_cons (ie_var (pv 1)) (ia_cons ie_int ia_nil)))))
    (iss_cons (is_if (it_w (iw_or (it_not (it_val (ie_call (o__law_lists_right T) (hr.mono (by omega)) rfl (ia_cons (ie_var (pv 1)) (ia_cons (ie_var (pv 2)) ia_nil))))) (iw_or (it_not (it_val (ie_call (o__law_lots_right T) (hr.mono (by omega)) rfl (ia_cons (ie_var (pv 2)) ia_nil)))) (iw_or1 (it_not (it_val (ie_call (o__law_colours_right T) (hr.mono (by omega)) rfl (ia_cons (ie_bin op_addD ie_int (ie_call (o__law_take T) (hr.mono (by omega)) rfl (ia_cons (ie_var (pv 1)) (ia_cons ie_int ia_nil)))) ia_nil)))))))) (iss_one (is_ret ie_bl)) iss_nil)
    (iss_cons (is_for rfl PassesOwn.never (ii_rg1 rfl (T.free 124 rfl) (ia_cons ie_int ia_nil)) (ij_name (i := 3) S.nd rfl (.inl rfl)) (iss_one (is_if (it_not (it_val (ie_call (o__law_one_right T) (hr.mono (by omega)) rfl (ia_cons (ie_var (pv 1)) (ia_cons (ie_call (o__law_tree T) (hr.mono (by omega)) rfl (ia_cons (ie_var (pv 1)) (ia_cons ie_int ia_nil))) ia_nil))))) (iss_one (is_ret ie_bl)) iss_nil)))
    (iss_one (is_ret ie_bl))))))
end Mi
set_option maxRecDepth 100000
set_option linter.all false
namespace Mi
open PySem PySem.Spec PyProof.Rows L2 Mset
theorem cut_map (f : Int → D) (ns : List Int) (lo hi : Option Int) : ∃ ys : List Int, cutA (ns.map f) lo hi = ys.map f ∧ ys.length ≤ ns.length := by
  refine ⟨cutA ns lo hi, ?_, ?_⟩
  · unfold cutA
    rw [List.length_map, List.map_take, List.map_drop]
  · unfold cutA
    rw [List.length_take, List.length_drop]
    omega
theorem cut_one (x : D) (xs : List D) : cutA (x :: xs) none (some 1) = [x] := by
  unfold cutA
  have e : HT.sIx (x :: xs).length (x :: xs).length (some 1) = 1 := by
    rw [show (some (1 : Int)) = some (((1 : Nat) : Int)) from rfl, HT.sIx_nat, List.length_cons]
    omega
  rw [e, HT.sIx_none]
  rfl
def cellsB : MS := (mSeq (mSet 5 (mBin modD (mCall (fa1 intF) (mCons (mVar 3) mNil)) (mVar 1)))
    (mAsg (mBin addD (mBin ixD (mVar 2) (mVar 5)) (mBin mulD (mVar 4) (mBin addD (mVar 3) (mC (.int 2))))) (gSubL (mVar 2) (mVar 5))))
theorem cells_loop (a : D) : ∀ (xs : List Int) (i : Nat) (e3 e4 e5 : Option D) (h : MH) (c : Int), i + xs.length ≤ 1000 → h.get 2 = some (.lst 0 [.int c]) →
    ∃ f3 f4 f5 h' c', loopM (gTupM 2 (gsCons (gN 3) (gsCons (gN 4) gsNil))) cellsB (enumI i (xs.map .int)) [some a, some (.int 1), some (.ref 2), e3, e4, e5] h = .ok (.nx [some a, some (.int 1), some (.ref 2), f3, f4, f5]) h' ∧
      h'.get 2 = some (.lst 0 [.int c']) ∧ h'.n = h.n ∧ ∀ j, j ≠ 2 → h'.get j = h.get j
  | [], i, e3, e4, e5, h, c, hl, hg => ⟨e3, e4, e5, h, c, rfl, hg, rfl, fun _ _ => rfl⟩
  | x :: xs, i, e3, e4, e5, h, c, hl, hg => by
    have so : seqD (.ref 2) h = some [.int c] := by simp only [seqD, hg]
    have oo : ownD (.ref 2) h = some (2, 0, [.int c]) := by simp only [ownD, hg]
    have m1 : modD (.int (i : Int)) (.int 1) h = .ok (.int 0) h := by
      rw [ev_mod (by decide), Int.emod_one]
    rw [List.length_cons] at hl
    have hp : (h.put 2 (.lst 0 [.int (c + x * ((i : Int) + 2))])).get 2 = some (.lst 0 [.int (c + x * ((i : Int) + 2))]) := by rw [MH.get_put (by decide), if_pos rfl]
    obtain ⟨f3, f4, f5, h', c', r1, r2, r3, r4⟩ := cells_loop a xs (i + 1) (some (.int (i : Int))) (some (.int x)) (some (.int 0)) (h.put 2 (.lst 0 [.int (c + x * ((i : Int) + 2))])) _ (by omega) hp
    refine ⟨f3, f4, f5, h', c', ?_, r2, r3, fun j hj => by rw [r4 j hj, MH.get_put (by decide), if_neg hj]⟩
    have b1 : cellsB [some a, some (.int 1), some (.ref 2), some (.int (i : Int)), some (.int x), e5] h = .ok (.nx [some a, some (.int 1), some (.ref 2), some (.int (i : Int)), some (.int x), some (.int 0)]) (h.put 2 (.lst 0 [.int (c + x * ((i : Int) + 2))])) := by
      refine ev_seq (ev_set (ev_bin (ev_call1 rfl rfl) rfl m1)) ?_
      have sb : ∀ env : Ev, mVar 2 env h = .ok (.ref 2) h → mVar 5 env h = .ok (.int 0) h → gSubL (mVar 2) (mVar 5) (.one (.int (c + x * ((i : Int) + 2)))) env h = .ok env (h.put 2 (.lst 0 [.int (c + x * ((i : Int) + 2))])) := fun env z1 z2 => ev_sub (p := 0) z1 z2 oo rfl
      exact ev_asg (ev_bin (ev_bin rfl rfl (ev_ix so rfl)) (ev_bin rfl (ev_bin rfl rfl rfl) (ev_mul (by omega))) rfl) (sb _ rfl rfl)
    show (R.bind (cellsB [some a, some (.int 1), some (.ref 2), some (.int (i : Int)), some (.int x), e5] h) (stepK (loopM (gTupM 2 (gsCons (gN 3) (gsCons (gN 4) gsNil))) cellsB (enumI (i + 1) (xs.map .int))))) = _
    rw [b1]
    exact r1
theorem new_get {h : MH} {o : MO} {j : Nat} (hc : h.n < 1000) : (h.new o).get j = if j = h.n then some o else h.get j := MH.get_new (by have : MH.cap = 131072 := rfl; omega)
theorem put_get {h : MH} {o : MO} {i j : Nat} (hc : i < 1000) : (h.put i o).get j = if j = i then some o else h.get j := MH.get_put (by have : MH.cap = 131072 := rfl; omega)
theorem newM_ok {h : MH} {o : MO} (hc : h.n < 1000) : newM o h = .ok (.ref h.n) (h.new o) := by
  unfold newM
  rw [show Nat.blt h.n MH.cap = true from Nat.blt_eq.mpr (by have : MH.cap = 131072 := rfl; omega)]
  rfl
theorem cells_run (ns : List Int) (hl : ns.length ≤ 63) : ∃ j c h', m__law_cells [.ref 0, .int 1] (oneH (.frz (ns.map .int))) = .ok (.ref j) h' ∧ h'.get j = some (.lst 0 [.int c]) ∧ j < h'.n ∧ h'.n < 10 := by
  cases ns with
  | nil => exact ⟨3, 0, ((((oneH (.frz [])).new (.lst 0 [])).new (.lst 0 [])).new (.lst 0 [.int 0])).new (.lst 0 []), by kernel_rfl, by kernel_rfl, by decide, by decide⟩
  | cons n ns =>
    obtain ⟨ys, ey, ly⟩ := cut_map D.int (n :: ns) (some 1) (some 63)
    have sl1 : mSlice (mVar 0) mNoPart (mPart (mVar 1)) (startE 4 [.ref 0, .int 1]) (oneH (.frz ((n :: ns).map .int))) = .ok (.ref 1) ((oneH (.frz ((n :: ns).map .int))).new (.lst 0 [.int n])) := by
      have e := cut_one (.int n) (ns.map .int)
      have e2 : mSlice (mVar 0) mNoPart (mPart (mVar 1)) (startE 4 [.ref 0, .int 1]) (oneH (.frz ((n :: ns).map .int))) = newM (.lst 0 (cutA (.int n :: ns.map .int) none (some 1))) (oneH (.frz ((n :: ns).map .int))) := by kernel_rfl
      rw [e2, e]
      kernel_rfl
    have step1 : mOrV (mCall (fa1 lstF) (mCons (mSlice (mVar 0) mNoPart (mPart (mVar 1))) mNil)) (mLst (mCons (mC (.int 0)) mNil)) (startE 4 [.ref 0, .int 1]) (oneH (.frz ((n :: ns).map .int))) = .ok (.ref 2) (((oneH (.frz ((n :: ns).map .int))).new (.lst 0 [.int n])).new (.lst 0 [.int n])) := by
      have c1 := ev_call1 (f := lstF) (r := .ok (.ref 2) (((oneH (.frz ((n :: ns).map .int))).new (.lst 0 [.int n])).new (.lst 0 [.int n]))) sl1 (by kernel_rfl)
      unfold mOrV
      rw [c1]
      kernel_rfl
    have g2 : (((oneH (.frz ((n :: ns).map .int))).new (.lst 0 [.int n])).new (.lst 0 [.int n])).get 2 = some (.lst 0 [.int n]) := by kernel_rfl
    have gi : mEnumI (mSlice (mVar 0) (mPart (mVar 1)) (mPart (mC (.int 63)))) [some (.ref 0), some (.int 1), some (.ref 2), none, none, none] (((oneH (.frz ((n :: ns).map .int))).new (.lst 0 [.int n])).new (.lst 0 [.int n])) = .ok (enumI 0 (ys.map .int), [3]) ((((oneH (.frz ((n :: ns).map .int))).new (.lst 0 [.int n])).new (.lst 0 [.int n])).new (.lst 0 (ys.map .int))) := by
      unfold mEnumI
      have s2 : mSlice (mVar 0) (mPart (mVar 1)) (mPart (mC (.int 63))) [some (.ref 0), some (.int 1), some (.ref 2), none, none, none] (((oneH (.frz ((n :: ns).map .int))).new (.lst 0 [.int n])).new (.lst 0 [.int n])) = .ok (.ref 3) ((((oneH (.frz ((n :: ns).map .int))).new (.lst 0 [.int n])).new (.lst 0 [.int n])).new (.lst 0 (ys.map .int))) := by
        have e2 : mSlice (mVar 0) (mPart (mVar 1)) (mPart (mC (.int 63))) [some (.ref 0), some (.int 1), some (.ref 2), none, none, none] (((oneH (.frz ((n :: ns).map .int))).new (.lst 0 [.int n])).new (.lst 0 [.int n])) = newM (.lst 0 (cutA ((n :: ns).map .int) (some 1) (some 63))) (((oneH (.frz ((n :: ns).map .int))).new (.lst 0 [.int n])).new (.lst 0 [.int n])) := by kernel_rfl
        rw [e2, ey]
        kernel_rfl
      rw [s2]
      kernel_rfl
    obtain ⟨f3, f4, f5, h', c', r1, r2, r3, r4⟩ := cells_loop (.ref 0) ys 0 none none none (lockA [3] ((((oneH (.frz ((n :: ns).map .int))).new (.lst 0 [.int n])).new (.lst 0 [.int n])).new (.lst 0 (ys.map .int)))) n (by rw [List.length_cons] at ly hl; omega) (by kernel_rfl)
    have rn : (lockA [3] ((((oneH (.frz ((n :: ns).map .int))).new (.lst 0 [.int n])).new (.lst 0 [.int n])).new (.lst 0 (ys.map .int)))).n = 4 := by kernel_rfl
    rw [rn] at r3
    have g3 : h'.get 3 = some (.lst 1 (ys.map .int)) := by rw [r4 3 (by decide)]; kernel_rfl
    have un : unlockA [3] h' = h'.put 3 (.lst 0 (ys.map .int)) := by
      show unlock1 h' 3 = _
      unfold unlock1
      rw [g3]
    have lp : mFor (mEnumI (mSlice (mVar 0) (mPart (mVar 1)) (mPart (mC (.int 63))))) (gTupM 2 (gsCons (gN 3) (gsCons (gN 4) gsNil))) cellsB [some (.ref 0), some (.int 1), some (.ref 2), none, none, none] (((oneH (.frz ((n :: ns).map .int))).new (.lst 0 [.int n])).new (.lst 0 [.int n])) = .ok (.nx [some (.ref 0), some (.int 1), some (.ref 2), f3, f4, f5]) (h'.put 3 (.lst 0 (ys.map .int))) := by
      unfold mFor
      rw [gi]
      show (R.bind (loopM _ cellsB (enumI 0 (ys.map .int)) _ (lockA [3] _)) _) = _
      rw [r1]
      show R.ok _ (unlockA [3] h') = _
      rw [un]
    refine ⟨2, c', h'.put 3 (.lst 0 (ys.map .int)), ev_def (ev_seq (ev_set step1) (ev_seq lp (ev_ret rfl))), ?_, ?_, ?_⟩
    · rw [put_get (by decide), if_neg (by decide)]; exact r2
    · show 2 < h'.n
      rw [r3]; decide
    · show h'.n < 10
      rw [r3]; decide
end Mi
set_option maxRecDepth 100000
set_option linter.all false
namespace Mi
open PySem PySem.Spec PyProof.Rows L2 Mset
section
variable {env : Ev} {h h1 h2 : MH} {d : D} {ds : List D} {m : ME} {ma : MA}
theorem ev_nil : mNil env h = .ok [] h := rfl
theorem ev_cons (a : m env h = .ok d h1) (b : ma env h1 = .ok ds h2) : mCons m ma env h = .ok (d :: ds) h2 := by
  unfold mCons; rw [a]; show (ma env h1).bind _ = _; rw [b]; rfl
theorem ev_lst {r : R D} (a : ma env h = .ok ds h1) (l : lenOk ds = true) (b : newM (.lst 0 ds) h1 = r) : mLst ma env h = r := by
  unfold mLst; rw [a]; show (bif lenOk ds then _ else _) = r; rw [l]; exact b
theorem ev_callF {n : Nat} {f : FA} {r : R D} (a : ma env h = .ok ds h1) (l : Nat.beq ds.length n = true) (b : f ds h1 = r) : mCallF n f ma env h = r := by
  unfold mCallF; rw [a]; show (bif Nat.beq ds.length n then _ else _) = r; rw [l]; exact b
theorem ev_ifE {mt : MT} {ma mb : ME} {r : R D} (a : mt env h = .ok true h1) (b : ma env h1 = r) : mIf mt ma mb env h = r := by
  unfold mIf; rw [a]; exact b
end
theorem box_run (j : Nat) (c : Int) (h : MH) (hg : h.get j = some (.lst 0 [.int c])) (hn : h.n < 100) : ∃ a b : Int, m__law_box [.ref j, .int 0] h = .ok (.ref h.n) (h.new (.lst 0 [.int a, .int b, .int 0])) ∧ 0 ≤ b ∧ b < 4611686018427387904 := by
  have so : seqD (.ref j) h = some [.int c] := by simp only [seqD, hg]
  have ln : lenF (.ref j) h = .ok (.int 1) h := by unfold lenF; rw [so]; rfl
  have z0 := Int.emod_nonneg c (show (2305843009213693951 : Int) ≠ 0 by decide)
  have z1 := Int.emod_lt_of_pos c (show (0 : Int) < 2305843009213693951 by decide)
  refine ⟨(if c < 0 then -c else c) * (if oGe (icmp (if c < 0 then -c else c) (10 ^ 18)) = true then 1 else 0), c % 2305843009213693951 + 39373 * 0 + 24770, ?_, by omega, by omega⟩
  have pw : powD (.int 10) (.int 18) h = .ok (.int (10 ^ 18)) h := by kernel_rfl
  have il : ∀ x : Int, intF (.bl (oGe (icmp x (10 ^ 18)))) h = .ok (.int (if oGe (icmp x (10 ^ 18)) = true then 1 else 0)) h := fun x => rfl
  have cm : ∀ x : Int, cmpD oGe (.int x) (.int (10 ^ 18)) h = .ok (.bl (oGe (icmp x (10 ^ 18)))) h := fun x => rfl
  have ab : absF (.int c) h = .ok (.int (if c < 0 then -c else c)) h := rfl
  refine ev_def (ev_seq (ev_set (ev_ifE (ev_tb (ev_bin rfl (ev_call1 rfl ln) rfl)) (ev_bin rfl rfl (ev_ix so rfl)))) (ev_ret ?_))
  have q : ∀ k : Bool, (if k = true then (1 : Int) else 0).natAbs < 1152921504606846976 := by decide
  refine ev_lst (ev_cons (ev_bin (ev_call1 rfl ab) (ev_call1 (ev_bin (ev_call1 rfl ab) (ev_bin rfl rfl pw) (cm _)) (il _)) (ev_mul (q _))) (ev_cons (ev_bin (ev_bin (ev_bin (ev_call1 rfl rfl) rfl (ev_mod (by decide))) (ev_bin rfl rfl (ev_mul (by decide))) rfl) rfl rfl) (ev_cons rfl ev_nil))) rfl ?_
  exact newM_ok (by omega)
theorem boxAt_put {b c : Nat} {h : MH} (hb : b < h.n) (hb2 : b < 1000) : boxAt b (h.put b (.box c)) = some c := by
  unfold boxAt
  have e : Nat.blt b (h.put b (.box c)).n = true := Nat.blt_eq.mpr hb
  rw [e, put_get hb2, if_pos rfl]
  rfl
theorem boxAt_lt {b c : Nat} {h : MH} (e : boxAt b h = some c) : b < h.n := (boxAt_of e).1
theorem take_ev {b c : Nat} {h : MH} {m : Int} (e : boxAt b h = some c) (m0 : 0 < m) (m1 : m < 1000000) (hc : c < 1000) : takeF [.ref b, .int m] h = .drw m.toNat (fun i => .ok (.int (i : Int)) (h.put b (.box (c + 1)))) := by
  unfold takeF
  simp only [e, decide_eq_true m0, decide_eq_true m1, show Nat.blt c 100000000 = true from Nat.blt_eq.mpr (by omega), Bool.and_true, cond_true]
def optK (o : Option D) (h : MH) : R D := match o with
  | some d => .ok d h
  | none => .err
/-- three laps over a box of 4 -/
theorem laps_run (b : Nat) (hb : b < 1000) (e0 e2 e3 : Option D) (h : MH) (e : boxAt b h = some 4) :
    (mFor (mRg1I (mCons (mC (.int 3)) mNil)) (gN 3) (mIfS (mNot (mTV (mCallF 2 g__law_one_right (mCons (mVar 1) (mCons (mCallF 2 g__law_tree (mCons (mVar 1) (mCons (mC (.int 7)) mNil))) mNil))))) (mRet (mC (.bl false))) mNext) [e0, some (.ref b), e2, e3] h).all fun fl _ => ∃ env, fl = .nx env := by
  have lap : ∀ (c c2 : Nat) (x : Option D) (h : MH) (P : Fl → MH → Prop), boxAt b h = some c → (c = 4 ∧ c2 = 11 ∨ c = 11 ∧ c2 = 18 ∨ c = 18 ∧ c2 = 25) → (∀ h2, boxAt b h2 = some c2 → P (.nx [e0, some (.ref b), e2, x]) h2) →
      (mIfS (mNot (mTV (mCallF 2 g__law_one_right (mCons (mVar 1) (mCons (mCallF 2 g__law_tree (mCons (mVar 1) (mCons (mC (.int 7)) mNil))) mNil))))) (mRet (mC (.bl false))) mNext [e0, some (.ref b), e2, x] h).all P := by
    intro c c2 x h P e hc hP
    have lt := boxAt_lt e
    have dr : mCallF 2 g__law_tree (mCons (mVar 1) (mCons (mC (.int 7)) mNil)) [e0, some (.ref b), e2, x] h = .drw forest.length (fun i => optK forest[i]? (h.put b (.box c2))) := by
      refine ev_callF (ds := [.ref b, .int 7]) (h1 := h) rfl rfl ?_
      show drawF 7 forest [(4, 11), (11, 18), (18, 25)] [.ref b, .int 7] h = _
      unfold drawF
      rcases hc with ⟨rfl, rfl⟩ | ⟨rfl, rfl⟩ | ⟨rfl, rfl⟩ <;> (simp only [e]; rfl)
    unfold mIfS mNot mTV
    refine R.all_bind.mpr (R.all_bind.mpr (R.all_bind.mpr ?_))
    unfold mCallF
    refine R.all_bind.mpr ?_
    have ar : mCons (mVar 1) (mCons (mCallF 2 g__law_tree (mCons (mVar 1) (mCons (mC (.int 7)) mNil))) mNil) [e0, some (.ref b), e2, x] h = .drw forest.length (fun i => (optK forest[i]? (h.put b (.box c2))).bind fun d h1 => .ok [.ref b, d] h1) := by
      show (R.bind (mCons (mCallF 2 g__law_tree (mCons (mVar 1) (mCons (mC (.int 7)) mNil))) mNil [e0, some (.ref b), e2, x] h) fun ds h2 => .ok (.ref b :: ds) h2) = _
      show (R.bind (R.bind (mCallF 2 g__law_tree (mCons (mVar 1) (mCons (mC (.int 7)) mNil)) [e0, some (.ref b), e2, x] h) _) _) = _
      rw [dr]
      show R.drw _ _ = _
      congr 1
      funext i
      show (R.bind (R.bind (optK forest[i]? (h.put b (.box c2))) _) _) = R.bind (optK forest[i]? (h.put b (.box c2))) _
      generalize forest[i]? = q
      cases q <;> rfl
    unfold mCallF at ar
    rw [ar]
    intro i hi
    have hi : i < forest.length := hi
    have oi : optK forest[i]? (h.put b (.box c2)) = .ok forest[i] (h.put b (.box c2)) := by rw [List.getElem?_eq_getElem hi]; rfl
    show R.all _ (R.bind (optK forest[i]? (h.put b (.box c2))) _)
    rw [oi]
    have e2 : boxAt b (h.put b (.box c2)) = some c2 := boxAt_put lt hb
    have sm : g__law_one_right [.ref b, forest[i]] (h.put b (.box c2)) = .ok (.bl true) ((h.put b (.box c2)).put b (.box c2)) := by
      show sameF forest [.ref b, forest[i]] (h.put b (.box c2)) = _
      unfold sameF
      simp only [e2]
      have z : forest.any (fun d => D.eqb d forest[i]) = true := List.any_eq_true.mpr ⟨forest[i], List.getElem_mem hi, eqb_refl _⟩
      rw [z]
      rfl
    show R.all _ (bif Nat.beq [D.ref b, forest[i]].length 2 then g__law_one_right [.ref b, forest[i]] (h.put b (.box c2)) else .err)
    rw [show Nat.beq [D.ref b, forest[i]].length 2 = true from rfl, cond_true, sm]
    exact hP _ (boxAt_put (h := h.put b (.box c2)) lt hb)
  show R.all _ (R.bind (loopM (gN 3) _ [.one (.int 0), .one (.int 1), .one (.int 2)] [e0, some (.ref b), e2, e3] h) fun fl h2 => .ok fl h2)
  refine R.all_bind.mpr ?_
  refine R.all_bind.mpr ?_
  show R.all _ (R.bind (mIfS _ _ _ [e0, some (.ref b), e2, some (.int 0)] h) _)
  refine R.all_bind.mpr (lap 4 11 (some (.int 0)) h _ e (.inl ⟨rfl, rfl⟩) fun h2 q2 => ?_)
  refine R.all_bind.mpr ?_
  show R.all _ (R.bind (mIfS _ _ _ [e0, some (.ref b), e2, some (.int 1)] h2) _)
  refine R.all_bind.mpr (lap 11 18 (some (.int 1)) h2 _ q2 (.inr (.inl ⟨rfl, rfl⟩)) fun h3 q3 => ?_)
  refine R.all_bind.mpr ?_
  show R.all _ (R.bind (mIfS _ _ _ [e0, some (.ref b), e2, some (.int 2)] h3) _)
  refine R.all_bind.mpr (lap 18 25 (some (.int 2)) h3 _ q3 (.inr (.inr ⟨rfl, rfl⟩)) fun h4 q4 => ?_)
  exact ⟨_, rfl⟩
end Mi
set_option maxRecDepth 100000
set_option maxHeartbeats 4000000
set_option linter.all false
namespace Mi
open PySem PySem.Spec PyProof.Rows L2 Mset
theorem law_run (ns : List Int) (hl : ns.length ≤ 63) : (m_law [.ref 0] (oneH (.frz (ns.map .int)))).all fun a _ => a = .bl true := by
  obtain ⟨j, c, h1, ec, gc, hj, hn⟩ := cells_run ns hl
  obtain ⟨a, b, eb, b0, b1⟩ := box_run j c h1 gc (by omega)
  have st1 : mSet 1 (mCallF 2 m__law_box (mCons (mCallF 2 m__law_cells (mCons (mVar 0) (mCons (mC (.int 1)) mNil))) (mCons (mC (.int 0)) mNil))) (startE 3 [.ref 0]) (oneH (.frz (ns.map .int))) = .ok (.nx [some (.ref 0), some (.ref h1.n), none, none]) (h1.new (.lst 0 [.int a, .int b, .int 0])) :=
    ev_set (ev_callF (ev_cons (ev_callF (ev_cons rfl (ev_cons rfl ev_nil)) rfl ec) (ev_cons rfl ev_nil)) rfl eb)
  have q0 : boxAt h1.n (h1.new (.lst 0 [.int a, .int b, .int 0])) = some 0 := by
    unfold boxAt
    rw [show Nat.blt h1.n (h1.new (.lst 0 [.int a, .int b, .int 0])).n = true from Nat.blt_eq.mpr (Nat.lt_succ_self _), new_get (by omega), if_pos rfl]
    simp only [cond_true, boxN, decide_eq_true b0, decide_eq_true b1, Bool.and_true]
    rfl
  have hn2 : h1.n < 1000 := by omega
  generalize (h1.new (.lst 0 [.int a, .int b, .int 0])) = h2 at st1 q0
  generalize h1.n = t at st1 q0 hn2
  have lt := boxAt_lt q0
  unfold m_law
  show R.all _ (R.bind (R.bind (mSet 1 _ (startE 3 [.ref 0]) (oneH (.frz (ns.map .int)))) _) _)
  rw [st1]
  show R.all _ (R.bind (R.bind (mSet 2 _ [some (.ref 0), some (.ref t), none, none] h2) _) _)
  have tk : mCallF 2 g__law_take (mCons (mVar 1) (mCons (mC (.int 7)) mNil)) [some (.ref 0), some (.ref t), none, none] h2 = .drw 7 (fun i => .ok (.int (i : Int)) (h2.put t (.box 1))) :=
    ev_callF (ds := [.ref t, .int 7]) rfl rfl (take_ev q0 (by decide) (by decide) (by decide))
  have st2 : mSet 2 (mBin addD (mC (.int 1)) (mCallF 2 g__law_take (mCons (mVar 1) (mCons (mC (.int 7)) mNil)))) [some (.ref 0), some (.ref t), none, none] h2 = .drw 7 (fun i => .ok (.nx [some (.ref 0), some (.ref t), some (.int (1 + (i : Int))), none]) (h2.put t (.box 1))) := by
    show (R.bind (R.bind (mCallF 2 g__law_take (mCons (mVar 1) (mCons (mC (.int 7)) mNil)) [some (.ref 0), some (.ref t), none, none] h2) _) _) = _
    rw [tk]
    rfl
  rw [st2]
  intro i hi
  have q1 : boxAt t (h2.put t (.box 1)) = some 1 := boxAt_put lt hn2
  have lt1 := boxAt_lt q1
  generalize h2.put t (.box 1) = h3 at q1 lt1
  show R.all _ (R.bind (R.bind (mIfS _ _ _ [some (.ref 0), some (.ref t), some (.int (1 + (i : Int))), none] h3) _) _)
  refine R.all_bind.mpr (R.all_bind.mpr ?_)
  have A : mNot (mTV (mCallF 2 g__law_lists_right (mCons (mVar 1) (mCons (mVar 2) mNil)))) [some (.ref 0), some (.ref t), some (.int (1 + (i : Int))), none] h3 = .ok false (h3.put t (.box 3)) := by
    have e : mCallF 2 g__law_lists_right (mCons (mVar 1) (mCons (mVar 2) mNil)) [some (.ref 0), some (.ref t), some (.int (1 + (i : Int))), none] h3 = .ok (.bl true) (h3.put t (.box 3)) := by
      refine ev_callF (ds := [.ref t, .int (1 + (i : Int))]) (h1 := h3) rfl rfl ?_
      show boxF 7 1 3 [.ref t, .int (1 + (i : Int))] h3 = _
      unfold boxF
      simp only [q1, show Nat.beq 1 1 = true from rfl, decide_eq_true (show 0 < 1 + (i : Int) by omega), decide_eq_true (show 1 + (i : Int) ≤ ((7 : Nat) : Int) by omega), Bool.and_true, cond_true]
    unfold mNot
    rw [ev_tv e rfl]
    rfl
  have q3 : boxAt t (h3.put t (.box 3)) = some 3 := boxAt_put lt1 hn2
  have lt3 := boxAt_lt q3
  generalize h3.put t (.box 3) = h4 at A q3 lt3
  have B : mNot (mTV (mCallF 1 g__law_lots_right (mCons (mVar 2) mNil))) [some (.ref 0), some (.ref t), some (.int (1 + (i : Int))), none] h4 = .ok false h4 := by
    have e : mCallF 1 g__law_lots_right (mCons (mVar 2) mNil) [some (.ref 0), some (.ref t), some (.int (1 + (i : Int))), none] h4 = .ok (.bl true) h4 := by
      refine ev_callF (ds := [.int (1 + (i : Int))]) (h1 := h4) rfl rfl ?_
      show valF 7 (fun _ => .bl true) [.int (1 + (i : Int))] h4 = _
      unfold valF
      simp only [decide_eq_true (show 0 < 1 + (i : Int) by omega), decide_eq_true (show 1 + (i : Int) ≤ ((7 : Nat) : Int) by omega), Bool.and_true, cond_true]
    unfold mNot
    rw [ev_tv e rfl]
    rfl
  have tk4 : mCallF 2 g__law_take (mCons (mVar 1) (mCons (mC (.int 4)) mNil)) [some (.ref 0), some (.ref t), some (.int (1 + (i : Int))), none] h4 = .drw 4 (fun i => .ok (.int (i : Int)) (h4.put t (.box 4))) :=
    ev_callF (ds := [.ref t, .int 4]) rfl rfl (take_ev q3 (by decide) (by decide) (by decide))
  have q4 : boxAt t (h4.put t (.box 4)) = some 4 := boxAt_put lt3 hn2
  generalize h4.put t (.box 4) = h5 at tk4 q4
  have ar : mCons (mBin addD (mC (.int 1)) (mCallF 2 g__law_take (mCons (mVar 1) (mCons (mC (.int 4)) mNil)))) mNil [some (.ref 0), some (.ref t), some (.int (1 + (i : Int))), none] h4 = .drw 4 (fun k => .ok [.int (1 + (k : Int))] h5) := by
    show (R.bind (R.bind (mCallF 2 g__law_take (mCons (mVar 1) (mCons (mC (.int 4)) mNil)) [some (.ref 0), some (.ref t), some (.int (1 + (i : Int))), none] h4) _) _) = _
    rw [tk4]
    rfl
  have C : ∀ P : Bool → MH → Prop, P false h5 → (mNot (mTV (mCallF 1 g__law_colours_right (mCons (mBin addD (mC (.int 1)) (mCallF 2 g__law_take (mCons (mVar 1) (mCons (mC (.int 4)) mNil)))) mNil))) [some (.ref 0), some (.ref t), some (.int (1 + (i : Int))), none] h4).all P := by
    intro P hP
    unfold mNot mTV
    refine R.all_bind.mpr (R.all_bind.mpr ?_)
    show R.all _ (R.bind (mCons (mBin addD (mC (.int 1)) (mCallF 2 g__law_take (mCons (mVar 1) (mCons (mC (.int 4)) mNil)))) mNil [some (.ref 0), some (.ref t), some (.int (1 + (i : Int))), none] h4) _)
    refine R.all_bind.mpr ?_
    rw [ar]
    intro k hk
    have e : g__law_colours_right [.int (1 + (k : Int))] h5 = .ok (.bl true) h5 := by
      show valF 4 (fun _ => .bl true) [.int (1 + (k : Int))] h5 = _
      unfold valF
      simp only [decide_eq_true (show 0 < 1 + (k : Int) by omega), decide_eq_true (show 1 + (k : Int) ≤ ((4 : Nat) : Int) by omega), Bool.and_true, cond_true]
    show R.all _ (g__law_colours_right [.int (1 + (k : Int))] h5)
    rw [e]
    exact hP
  show R.all _ (R.bind (mOr _ _ _ h3) _)
  refine R.all_bind.mpr ?_
  show R.all _ (R.bind (mNot (mTV (mCallF 2 g__law_lists_right (mCons (mVar 1) (mCons (mVar 2) mNil)))) [some (.ref 0), some (.ref t), some (.int (1 + (i : Int))), none] h3) _)
  rw [A]
  show R.all _ (R.bind (mNot (mTV (mCallF 1 g__law_lots_right (mCons (mVar 2) mNil))) [some (.ref 0), some (.ref t), some (.int (1 + (i : Int))), none] h4) _)
  rw [B]
  refine C _ ?_
  show R.all (fun a h => R.all (fun a x => a = D.bl true) (bodyK a h)) (R.bind (mFor _ _ _ [some (.ref 0), some (.ref t), some (.int (1 + (i : Int))), none] h5) _)
  refine R.all_bind.mpr (R.all_mono (laps_run t hn2 _ _ _ h5 q4) fun fl h6 ⟨env, e⟩ => ?_)
  subst e
  exact rfl
end Mi
namespace Mi
open PySem PySem.Spec PyProof.Rows L2 Mset
def loose0 : List Str := ["Unfit", "tupled", "is_number", "is_count", "is_below", "is_tuple_of", "set_of", "sure_number", "sure_count", "sure_within", "shared", "made", "MOST_LISTED", "is_sorted", "is_tree", "sure_tree", "size_in", "size_of", "depth_in", "depth_of"]
def loose1 : List Str := ["leaves_in", "leaves_of", "most_in", "most_hanging", "under", "hung", "grown_in", "grown_trees", "listed", "listed_to", "all_trees", "trees_to", "how_many_trees", "tree_number", "density_in", "MOST_COUNTED", "MOST_NAMED", "product_to", "likeness_in", "likeness"]
def loose2 : List Str := ["sizes_in", "node_sizes", "hangings_in", "how_many_orders", "how_many_free", "tree_counts", "likeness_sum", "trees_with", "hanging_counts", "MOST_COLOURED", "PAIR_colours", "TWO", "is_coloured", "sure_coloured", "sure_colour", "coloured_of", "size_coloured", "coloured_size", "bare_in", "bare_tree"]
def loose3 : List Str := ["hung_in", "grown_coloured", "listed_coloured", "coloured_trees", "painted_in", "painted", "parted", "PAIR_cuts", "tied_cuts", "cuts_of", "cut_ways", "how_many_cuts", "hung_below", "hung_everywhere", "roots_moved", "root_moved", "free_in", "lots_of_free", "free_counts", "middles_in"]
def loose4 : List Str := ["node_count", "middle_nodes", "trees_at_nodes", "nodes_of", "names_under", "nodes_under", "MOST_NODES", "trees_of_degree", "how_many_of_degree", "lot_of", "lots_in", "number_lots", "lot_counts", "_law_box", "_law_take", "_law_cells", "_law_of", "_law_same", "_law_lists", "_law_gcd"]
def loose5 : List Str := ["_law_fr", "_law_sum", "_law_added", "_law_size", "_law_grown", "_law_trees", "_law_density", "_law_likeness", "_law_hung", "_law_tree", "_law_counted", "_law_parted", "_law_leaves", "_law_most", "_law_deep", "_law_cuts", "_law_coloured_likeness", "_law_bare", "_law_lists_right", "_law_lots_right"]
def loose6 : List Str := ["_law_colours_right", "_law_one_right"]
def loose : List Str := loose0 ++ loose1 ++ loose2 ++ loose3 ++ loose4 ++ loose5 ++ loose6
def asL : List Addr := mainGlobals :: [32, 31, 39, 38, 46, 45, 53, 52, 60, 59, 67, 66, 74, 73, 81, 80, 88, 87, 95, 94, 102, 101, 107, 106, 112, 111, 119, 118, 124, 123, 131, 130, 136, 135, 143, 142, 148, 147, 155, 154, 160, 159, 167, 166, 174, 173, 181, 180, 186, 185, 193, 192, 200, 199, 207, 206, 214, 213, 221, 220, 228, 227, 235, 234, 242, 241, 249, 248, 256, 255, 263, 262, 270, 269, 277, 276, 284, 283, 291, 290, 298, 297, 303, 302, 310, 309, 315, 314, 320, 319, 325, 324, 332, 331, 339, 338, 344, 343, 349, 348, 356, 355, 361, 360, 368, 367, 375, 374, 380, 379, 387, 386, 394, 393, 399, 398, 406, 405, 411, 410, 418, 417, 423, 422, 430, 429, 437, 436, 444, 443, 449, 448, 456, 455, 463, 462, 470, 469, 475, 474, 480, 479, 485, 484, 492, 491, 499, 498, 506, 505, 513, 512, 520, 519, 527, 526, 532, 531, 539, 538, 546, 545, 553, 552, 558, 557, 565, 564, 572, 571, 579, 578, 586, 585, 593, 592, 598, 597, 603, 602, 610, 609, 617, 616, 624, 623, 631, 630, 638, 637, 645, 644, 650, 649, 657, 656, 664, 663, 671, 670, 678, 677, 683, 682, 690, 689, 695, 694, 700, 699, 705, 704, 712, 711, 719, 718, 724, 723, 729, 728, 734, 733, 739, 738, 744, 743, 751, 750]
abbrev OR : PySem.W.OpenRow := PySem.W.OpenLaw.row PySem.Challenge.rw_driftsuntold_k91_across_whole_counts_of
theorem top_run (w : World) : HandSHeadRun.RunEq OR (PySem.W.view OR.prog [134]) (hookA asL fa fn) (obA asL fa fn) 20000 loose w := by
  intro os
  kernel_rfl
end Mi
namespace Mi
open PySem PySem.Spec PyProof.Rows L2 Mset
theorem law_facts {P : Program} {w : World} {K : PySem.W.Frag} {h : Heap} {mg : Str → Option Value} {f : Addr} (X : K.In h) (G : h.Ns mainGlobals mg) (hf : mg ("law" : Str) = some (.ref f)) (c : He.SaysD fa fn K) :
    ∃ fd : FuncData, (∀ (t : Shared) (u : Value), BindsTo t fd ⟨[u], []⟩ [("script", u)]) ∧ ∀ base : Heap, K.In base → base.Ns mainGlobals mg → FnG P w K mg base 29 f fd ["script"] (spM P w K 1 m_law) := by
  have T : Top K mg := ⟨⟨h, X, G, c⟩⟩
  obtain ⟨fd, F, hm⟩ := T.def_ 113 (d := dd "law" 134) rfl rfl
  have e := hf.symm.trans hm
  cases e
  have b := FunD.bindsA (ps := ["script"]) F fun _ _ _ _ _ _ us hl => match us, hl with | [_], _ => rfl
  exact ⟨fd, fun t u => b t [u] rfl, fun base _ _ => e_law T F⟩
end Mi
open PySem PySem.W PySem.Calls PyProof.Rows
theorem PySem.Challenge.cw_driftsuntold_k91_across_whole_counts_of_holds : PySem.Challenge.rw_driftsuntold_k91_across_whole_counts_of.Holds := by
  w_on; o_law
  refine HandSHeadRun.head_any (r := Mi.OR) (q := view Mi.OR.prog [134]) (H := Mi.hookA Mi.asL Mi.fa Mi.fn) (ob := Mi.obA Mi.asL Mi.fa Mi.fn) (M := 20000) (loose := Mi.loose) (d := HandSHeadRun.topDef Mi.OR.prog 134) (kwd := []) (Mi.obA_eq Mi.asL Mi.fa Mi.fn)
    (by kernel_rfl) (fun s => by kernel_rfl) Mi.top_run (by kernel_rfl) (by kernel_rfl) (by kernel_rfl) (by rfl) (by first | assumption | decide +kernel) (by decide +kernel) ⟨rfl, rfl, rfl, rfl, rfl, by decide +kernel⟩ ?hw ?hc
  case hw => w_witness2
  case hc =>
    refine Mi.walkM (x := "script") (k := 29) (m := Mi.m_law) rfl (by kernel_rfl) ⟨⟨rfl, by decide, by decide⟩, rfl⟩ ?F Mi.law_run
    intro w mg f h Y G hm
    obtain ⟨K, KX, c⟩ := Y
    have hf : mg ("law" : PySem.Str) = some (.ref f) := by
      have e : (HandSHeadRun.topDef Mi.OR.prog 134).name = ("law" : PySem.Str) := by kernel_rfl
      rw [← e]
      exact hm
    obtain ⟨fd, hb, hF⟩ := Mi.law_facts (P := (PySem.Challenge.rw_driftsuntold_k91_across_whole_counts_of).prog) (w := w) KX G hf c
    exact ⟨K, fd, KX, hb, hF⟩
