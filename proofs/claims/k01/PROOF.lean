import PyProof.Rows.All
import Wide.All
import OpenK.AllK
import Wide.FinOn
import HandS.ForMost
import HandS.ForExc
import HandS.Wide
import HandS.CallSlots
import HandS.Lambda
import HandS.Conv
import HandS.Deep
import HandS.Style
import HandS.Gcd
import HandS.TupAny
import HandS.IsInst
import HandS.StrMore
import HandS.ExcInit
import HandS.ExcIs
import HandS.ExcField
import KE.KExcSuper
import KE.KExcIs
import HandS.ExcValue
import KE.KDflt
import KE.KIntText
import PyProof.Rows.StrOr
import PyProof.ReprRoads
import HandS.WideBits
import HandS.Iter
import HandS.Text
import HandS.EndTab
import PyProof.ReprLen
import HandS.Dict
import PySem.Challenge.RW_whicheverworld_k01_words_of_ratios_and_s
import KE.IntTextText
section
set_option Elab.async false
set_option linter.all false
set_option maxRecDepth 100000
set_option maxHeartbeats 2000000
/-! FL: the functional layer over HandS: each def of the program is a function of plain data, and the program's steps are led to it once and for all. -/
namespace FL
open PySem PySem.Spec PyProof.Rows L2 LamX

/-! ## data -/
/-- data of the program: trees; a cell is a list that changes, by its number in the store; exc: an exception object -/
inductive D where
  | non | bl (b : Bool) | int (i : Int) | str (s : Str)
  | tup (xs : List D) | lst (xs : List D) | ro (xs : List D)
  | cell (n : Nat)
  | exc (c : Str) (fs : List D)
  | dic
  | ty (n : String) | cls (c : Str) | fn (f c : Addr) (q : Str) (σ : List (Option V)) (γ : List (Option D))

mutual
def D.py : D → PyData
  | .non => .none
  | .bl b => .bool b
  | .int i => .int i
  | .str s => .str s
  | .tup xs => .tuple (D.pys xs)
  | .lst xs => .list (D.pys xs)
  | .ro _ => .none
  | .cell _ => .none
  | .exc _ _ => .none
  | .dic => .none
  | .ty _ => .none
  | .cls _ => .none
  | .fn _ _ _ _ _ => .none
def D.pys : List D → List PyData
  | [] => []
  | x :: xs => D.py x :: D.pys xs
end
mutual
def D.isPy : D → Bool
  | .non => true
  | .bl _ => true
  | .int _ => true
  | .str _ => true
  | .tup xs => D.arePy xs
  | .lst xs => D.arePy xs
  | .ro _ => false
  | .cell _ => false
  | .exc _ _ => false
  | .dic => false
  | .ty _ => false
  | .cls _ => false
  | .fn _ _ _ _ _ => false
def D.arePy : List D → Bool
  | [] => true
  | x :: xs => D.isPy x && D.arePy xs
end

/-- what is fixed: the written part, the tables of code objects, the module's names, the fields of exception classes -/
structure Gx where
  K : PySem.W.Frag
  T : List (Addr × Str)
  mg : Str → Option Value
  xa : Str → List Str
/-- an exception object of the class at C, its own dict at d -/
def XO (C d a : Addr) : HO := .ext fun h => ∃ (oe : Obj) (vs : Array Value), h.get? a = some oe ∧ Zc (.ref C) (some d) oe ∧ oe.data = .fields vs
mutual
inductive DV (g : Gx) (S : Hp) (ρ : List Addr) : V → D → Prop
  | non : DV g S ρ .non .non
  | bl (b : Bool) : DV g S ρ (.bl b) (.bl b)
  | int (i : Int) : DV g S ρ (.int i) (.int i)
  | str (s : Str) : DV g S ρ (.str s) (.str s)
  | tup {a : Addr} {xs : List V} {ds : List D} : SqT g.K S a xs → DVs g S ρ xs ds → DV g S ρ (.ref a) (.tup ds)
  | lst {a : Addr} {xs : List V} {ds : List D} : S a = some (.lst xs) → DVs g S ρ xs ds → DV g S ρ (.ref a) (.lst ds)
  | ro {a : Addr} {xs : List V} {ds : List D} : SqL g.K S a xs → DVs g S ρ xs ds → DV g S ρ (.ref a) (.ro ds)
  | cell {n : Nat} {a : Addr} : ρ[n]? = some a → DV g S ρ (.ref a) (.cell n)
  | exc {a d C : Addr} {c : Str} {vs : List V} {fs : List D} : S a = some (XO C d a) → g.mg c = some (.ref C) → S d = some (.xd ((g.xa c).zip vs)) → vs.length = (g.xa c).length → DVs g S ρ vs fs → DV g S ρ (.ref a) (.exc c fs)
  | dic {a : Addr} {kvs : List (Key × V)} : S a = some (.dK kvs) → DV g S ρ (.ref a) .dic
  | ty (n : String) : DV g S ρ (.ty n) (.ty n)
  | cls {c : Str} {C : Addr} : g.mg c = some (.ref C) → DV g S ρ (.ref C) (.cls c)
  | fn {f c : Addr} {q : Str} {σ : List (Option V)} {γ : List (Option D)} : S c = some (CodeO c q) → DVo g S ρ σ γ → DV g S ρ (.ref f) (.fn f c q σ γ)
inductive DVs (g : Gx) (S : Hp) (ρ : List Addr) : List V → List D → Prop
  | nil : DVs g S ρ [] []
  | cons {v : V} {vs : List V} {d : D} {ds : List D} : DV g S ρ v d → DVs g S ρ vs ds → DVs g S ρ (v :: vs) (d :: ds)
inductive DVo (g : Gx) (S : Hp) (ρ : List Addr) : List (Option V) → List (Option D) → Prop
  | nil : DVo g S ρ [] []
  | skip {v : Option V} {vs : List (Option V)} {ds : List (Option D)} : DVo g S ρ vs ds → DVo g S ρ (v :: vs) (none :: ds)
  | cons {v : V} {vs : List (Option V)} {d : D} {ds : List (Option D)} : DV g S ρ v d → DVo g S ρ vs ds → DVo g S ρ (some v :: vs) (some d :: ds)
end

/-- what stands later: more is immutable, more cells are numbered -/
structure Le (S S' : Hp) (ρ ρ' : List Addr) : Prop where
  im : ∀ (a : Addr) (o : HO), S a = some o → S' a = some o
  ce : ∀ (n : Nat) (a : Addr), ρ[n]? = some a → ρ'[n]? = some a
theorem Le.refl (S : Hp) (ρ : List Addr) : Le S S ρ ρ := ⟨fun _ _ h => h, fun _ _ h => h⟩
theorem Le.trans {S S1 S2 : Hp} {ρ ρ1 ρ2 : List Addr} (a : Le S S1 ρ ρ1) (b : Le S1 S2 ρ1 ρ2) : Le S S2 ρ ρ2 :=
  ⟨fun c o h => b.im c o (a.im c o h), fun n c h => b.ce n c (a.ce n c h)⟩
theorem Le.sqT {g : Gx} {S S' : Hp} {ρ ρ' : List Addr} (e : Le S S' ρ ρ') {a : Addr} {xs : List V} (h : SqT g.K S a xs) : SqT g.K S' a xs := by
  rcases h with (h | ⟨o, h⟩) | h
  · exact .inl (.inl (e.im _ _ h))
  · exact .inl (.inr ⟨o, e.im _ _ h⟩)
  · exact .inr h
theorem Le.sqL {g : Gx} {S S' : Hp} {ρ ρ' : List Addr} (e : Le S S' ρ ρ') {a : Addr} {xs : List V} (h : SqL g.K S a xs) : SqL g.K S' a xs := by
  rcases h with (h | ⟨o, h⟩) | h
  · exact .inl (.inl (e.im _ _ h))
  · exact .inl (.inr ⟨o, e.im _ _ h⟩)
  · exact .inr h
mutual
theorem DV.mono {g : Gx} {S S' : Hp} {ρ ρ' : List Addr} (e : Le S S' ρ ρ') : ∀ {v : V} {d : D}, DV g S ρ v d → DV g S' ρ' v d
  | _, _, .non => .non
  | _, _, .bl b => .bl b
  | _, _, .int i => .int i
  | _, _, .str s => .str s
  | _, _, .tup h hs => .tup (e.sqT h) (DVs.mono e hs)
  | _, _, .lst h hs => .lst (e.im _ _ h) (DVs.mono e hs)
  | _, _, .ro h hs => .ro (e.sqL h) (DVs.mono e hs)
  | _, _, .cell h => .cell (e.ce _ _ h)
  | _, _, .exc h1 h2 h3 h4 h5 => .exc (e.im _ _ h1) h2 (e.im _ _ h3) h4 (DVs.mono e h5)
  | _, _, .dic h => .dic (e.im _ _ h)
  | _, _, .ty n => .ty n
  | _, _, .cls h => .cls h
  | _, _, .fn h hs => .fn (e.im _ _ h) (DVo.mono e hs)
theorem DVs.mono {g : Gx} {S S' : Hp} {ρ ρ' : List Addr} (e : Le S S' ρ ρ') : ∀ {vs : List V} {ds : List D}, DVs g S ρ vs ds → DVs g S' ρ' vs ds
  | _, _, .nil => .nil
  | _, _, .cons h hs => .cons (DV.mono e h) (DVs.mono e hs)
theorem DVo.mono {g : Gx} {S S' : Hp} {ρ ρ' : List Addr} (e : Le S S' ρ ρ') : ∀ {vs : List (Option V)} {ds : List (Option D)}, DVo g S ρ vs ds → DVo g S' ρ' vs ds
  | _, _, .nil => .nil
  | _, _, .skip hs => .skip (DVo.mono e hs)
  | _, _, .cons h hs => .cons (DV.mono e h) (DVo.mono e hs)
end
section
variable {g : Gx} {S : Hp} {ρ : List Addr}
theorem DVs.length : ∀ {vs : List V} {ds : List D}, DVs g S ρ vs ds → vs.length = ds.length
  | _, _, .nil => rfl
  | _, _, .cons _ hs => by simp [DVs.length hs]
theorem DVs.get : ∀ {vs : List V} {ds : List D} {i : Nat} {d : D}, DVs g S ρ vs ds → ds[i]? = some d → ∃ v, vs[i]? = some v ∧ DV g S ρ v d
  | _, _, 0, _, .cons h _, e => by simp at e; subst e; exact ⟨_, rfl, h⟩
  | _, _, i + 1, d, .cons _ hs, e => by
    obtain ⟨v, h1, h2⟩ := DVs.get (i := i) (d := d) hs (by simpa using e)
    exact ⟨v, by simpa using h1, h2⟩
  | _, _, _, _, .nil, e => by simp at e
theorem DVs.append : ∀ {vs : List V} {ds : List D} {ws : List V} {es : List D}, DVs g S ρ vs ds → DVs g S ρ ws es → DVs g S ρ (vs ++ ws) (ds ++ es)
  | _, _, _, _, .nil, h => h
  | _, _, _, _, .cons a b, h => .cons a (DVs.append b h)
theorem DVs.take : ∀ {vs : List V} {ds : List D} (n : Nat), DVs g S ρ vs ds → DVs g S ρ (vs.take n) (ds.take n)
  | _, _, 0, _ => .nil
  | _, _, _ + 1, .nil => .nil
  | _, _, n + 1, .cons a b => .cons a (DVs.take n b)
theorem DVs.drop : ∀ {vs : List V} {ds : List D} (n : Nat), DVs g S ρ vs ds → DVs g S ρ (vs.drop n) (ds.drop n)
  | _, _, 0, h => h
  | _, _, _ + 1, .nil => .nil
  | _, _, n + 1, .cons _ b => DVs.drop n b
theorem DVs.set : ∀ {vs : List V} {ds : List D} {v : V} {d : D} (n : Nat), DVs g S ρ vs ds → DV g S ρ v d → DVs g S ρ (vs.set n v) (ds.set n d)
  | _, _, _, _, _, .nil, _ => .nil
  | _, _, _, _, 0, .cons _ b, h => .cons h b
  | _, _, _, _, n + 1, .cons a b, h => .cons a (DVs.set n b h)
theorem DVs.dropLast : ∀ {vs : List V} {ds : List D}, DVs g S ρ vs ds → DVs g S ρ vs.dropLast ds.dropLast
  | _, _, .nil => .nil
  | _, _, .cons _ .nil => .nil
  | _, _, .cons a (.cons b c) => .cons a (DVs.dropLast (.cons b c))
theorem DVs.eraseIdx : ∀ {vs : List V} {ds : List D} (n : Nat), DVs g S ρ vs ds → DVs g S ρ (vs.eraseIdx n) (ds.eraseIdx n)
  | _, _, _, .nil => .nil
  | _, _, 0, .cons _ b => b
  | _, _, n + 1, .cons a b => .cons a (DVs.eraseIdx n b)
theorem DVs.reverse {vs : List V} {ds : List D} (h : DVs g S ρ vs ds) : DVs g S ρ vs.reverse ds.reverse := by
  have go : ∀ {vs : List V} {ds : List D} {ws : List V} {es : List D}, DVs g S ρ vs ds → DVs g S ρ ws es → DVs g S ρ (vs.reverse ++ ws) (ds.reverse ++ es) := by
    intro vs
    induction vs with
    | nil => intro ds ws es h hw; cases h; exact hw
    | cons v vs ih =>
      intro ds ws es h hw
      cases h with
      | cons a b =>
        simp only [List.reverse_cons, List.append_assoc, List.singleton_append]
        exact ih b (.cons a hw)
  simpa using go h .nil
theorem DVs.ints (ns : List Int) : DVs g S ρ (ns.map V.int) (ns.map D.int) := by
  induction ns with
  | nil => exact .nil
  | cons n ns ih => exact .cons (.int n) ih
end

mutual
theorem DV.dp {g : Gx} {S H : Hp} {ρ : List Addr} (sub : ∀ a o, S a = some o → H a = some o) : ∀ (d : D) {v : V}, DV g S ρ v d → d.isPy = true → Dp g.K H v d.py
  | .non, _, .non, _ => by rw [D.py]; exact .non
  | .bl b, _, .bl _, _ => by rw [D.py]; exact .bl b
  | .int i, _, .int _, _ => by rw [D.py]; exact .int i
  | .str s, _, .str _, _ => by rw [D.py]; exact .str s
  | .tup ds, _, .tup h hs, p => by
    rw [D.py]
    rw [D.isPy] at p
    exact .tup ((⟨sub, fun _ _ h => h⟩ : Le S H ρ ρ).sqT h) (DVs.dps sub ds hs p)
  | .lst ds, _, .lst h hs, p => by
    rw [D.py]
    rw [D.isPy] at p
    exact .lst (.inl (.inl (sub _ _ h))) (DVs.dps sub ds hs p)
  | .ro _, _, .ro _ _, p => by simp [D.isPy] at p
  | .cell _, _, .cell _, p => by simp [D.isPy] at p
  | .exc _ _, _, .exc _ _ _ _ _, p => by simp [D.isPy] at p
  | .dic, _, .dic _, p => by simp [D.isPy] at p
  | .ty _, _, .ty _, p => by simp [D.isPy] at p
  | .cls _, _, .cls _, p => by simp [D.isPy] at p
  | .fn _ _ _ _ _, _, .fn _ _, p => by simp [D.isPy] at p
theorem DVs.dps {g : Gx} {S H : Hp} {ρ : List Addr} (sub : ∀ a o, S a = some o → H a = some o) : ∀ (ds : List D) {vs : List V}, DVs g S ρ vs ds → D.arePy ds = true → DpAll g.K H vs (D.pys ds)
  | [], _, .nil, _ => by rw [D.pys]; exact .nil
  | d :: ds, _, .cons h hs, p => by
    rw [D.pys]
    rw [D.arePy, Bool.and_eq_true] at p
    exact .cons (DV.dp sub d h p.1) (DVs.dps sub ds hs p.2)
end

/-! ## the store, the heap -/
inductive Cell where
  | lst (ds : List D)
abbrev Sto := List (Option Cell)

def CellR (g : Gx) (S : Hp) (ρ : List Addr) (H : Hp) (a : Addr) : Cell → Prop
  | .lst ds => ∃ xs, H a = some (.lst xs) ∧ DVs g S ρ xs ds

structure Cfg (g : Gx) (S : Hp) (ρ : List Addr) (F : Hp) (st : Sto) (H : Hp) : Prop where
  sub : ∀ a o, S a = some o → H a = some o
  fra : ∀ (a : Addr) (o : HO), F a = some o → H a = some o
  dis : ∀ a xs, F a = some (.lst xs) → S a = none
  tab : Tabs g.T H
  noT : ∀ p ∈ g.T, S p.1 = none ∧ F p.1 = none
  len : ρ.length = st.length
  liv : ∀ (n : Nat) (c : Cell), st[n]? = some (some c) → ∃ a, ρ[n]? = some a ∧ S a = none ∧ F a = none ∧ CellR g S ρ H a c
  inj : ∀ (n m : Nat) (c c' : Cell) (a : Addr), st[n]? = some (some c) → st[m]? = some (some c') → ρ[n]? = some a → ρ[m]? = some a → n = m

/-- the slots -/
def EnvR (g : Gx) (S : Hp) (ρ : List Addr) (σ : L2.St) (γ : List (Option D)) : Prop :=
  σ.length = γ.length ∧ ∀ (i : Nat) (d : D), γ[i]? = some (some d) → ∃ v, σ[i]? = some (some v) ∧ DV g S ρ v d
theorem DVo.env {g : Gx} {S : Hp} {ρ : List Addr} : ∀ {σ : L2.St} {γ : List (Option D)}, DVo g S ρ σ γ → EnvR g S ρ σ γ
  | _, _, .nil => ⟨rfl, fun i d e => by simp at e⟩
  | _, _, .skip hs => by
    obtain ⟨h1, h2⟩ := DVo.env hs
    refine ⟨by simp [h1], fun i d e => ?_⟩
    cases i with
    | zero => simp at e
    | succ i => exact h2 i d (by simpa using e)
  | _, _, .cons h hs => by
    obtain ⟨h1, h2⟩ := DVo.env hs
    refine ⟨by simp [h1], fun i d e => ?_⟩
    cases i with
    | zero =>
      simp at e
      subst e
      exact ⟨_, rfl, h⟩
    | succ i => exact h2 i d (by simpa using e)
theorem EnvR.dvo {g : Gx} {S : Hp} {ρ : List Addr} : ∀ {σ : L2.St} {γ : List (Option D)}, EnvR g S ρ σ γ → DVo g S ρ σ γ
  | [], [], _ => .nil
  | [], _ :: _, h => by simp [EnvR] at h
  | _ :: _, [], h => by simp [EnvR] at h
  | v :: σ, none :: γ, h => .skip (EnvR.dvo ⟨by simpa using h.1, fun i d e => by simpa using h.2 (i + 1) d (by simpa using e)⟩)
  | v :: σ, some d :: γ, h => by
    obtain ⟨w, h1, h2⟩ := h.2 0 d rfl
    simp at h1
    subst h1
    exact .cons h2 (EnvR.dvo ⟨by simpa using h.1, fun i d e => by simpa using h.2 (i + 1) d (by simpa using e)⟩)
theorem EnvR.mono {g : Gx} {S S' : Hp} {ρ ρ' : List Addr} {σ : L2.St} {γ : List (Option D)} (h : EnvR g S ρ σ γ) (e : Le S S' ρ ρ') : EnvR g S' ρ' σ γ :=
  ⟨h.1, fun i d q => let ⟨v, h1, h2⟩ := h.2 i d q; ⟨v, h1, h2.mono e⟩⟩
theorem EnvR.set {g : Gx} {S : Hp} {ρ : List Addr} {σ : L2.St} {γ : List (Option D)} (h : EnvR g S ρ σ γ) {v : V} {d : D} (i : Nat) (r : DV g S ρ v d) : EnvR g S ρ (σ.set i (some v)) (γ.set i (some d)) := by
  refine ⟨by simpa using h.1, fun j e q => ?_⟩
  by_cases hj : j = i
  · subst hj
    by_cases hl : j < γ.length
    · rw [List.getElem?_set_self hl] at q
      cases q
      exact ⟨v, List.getElem?_set_self (by rw [h.1]; exact hl), r⟩
    · rw [List.getElem?_eq_none (by simpa using hl)] at q
      cases q
  · rw [List.getElem?_set_ne (Ne.symm hj)] at q
    obtain ⟨w, h1, h2⟩ := h.2 j e q
    exact ⟨w, by rw [List.getElem?_set_ne (Ne.symm hj)]; exact h1, h2⟩
theorem EnvR.wipe {g : Gx} {S : Hp} {ρ : List Addr} {σ : L2.St} {γ : List (Option D)} (h : EnvR g S ρ σ γ) (i : Nat) : EnvR g S ρ (σ.set i none) (γ.set i none) := by
  refine ⟨by simpa using h.1, fun j e q => ?_⟩
  by_cases hj : j = i
  · subst hj
    by_cases hl : j < γ.length
    · rw [List.getElem?_set_self hl] at q
      cases q
    · rw [List.getElem?_eq_none (by simpa using hl)] at q
      cases q
  · rw [List.getElem?_set_ne (Ne.symm hj)] at q
    obtain ⟨w, h1, h2⟩ := h.2 j e q
    exact ⟨w, by rw [List.getElem?_set_ne (Ne.symm hj)]; exact h1, h2⟩

section
variable {g : Gx} {S F H : Hp} {ρ : List Addr} {st : Sto}
theorem CellR.mono {g : Gx} {S' : Hp} {ρ' : List Addr} {a : Addr} {H' : Hp} : ∀ {c : Cell}, CellR g S ρ H a c → Le S S' ρ ρ' → (∀ o, H a = some o → H' a = some o) → CellR g S' ρ' H' a c
  | .lst ds, ⟨xs, h1, h2⟩, e, k => ⟨xs, k _ h1, h2.mono e⟩
theorem CellR.there {g : Gx} {a : Addr} : ∀ {c : Cell}, CellR g S ρ H a c → ∃ xs, H a = some (.lst xs)
  | .lst ds, ⟨xs, h1, h2⟩ => ⟨xs, h1⟩
theorem Cfg.fresh (c : Cfg g S ρ F st H) {p : Addr} (hp : H p = none) : S p = none ∧ F p = none := by
  refine ⟨?_, ?_⟩
  · cases e : S p with
    | none => rfl
    | some o => rw [c.sub p o e] at hp; cases hp
  · cases e : F p with
    | none => rfl
    | some o => rw [c.fra p o e] at hp; cases hp
theorem tab_ext {T : List (Addr × Str)} {H H' : Hp} (t : Tabs T H) (k : ∀ b o, H b = some o → H' b = some o) : Tabs T H' := t.ext k
/-- a new object, immutable from now on -/
theorem Cfg.laid (c : Cfg g S ρ F st H) {p : Addr} {o : HO} (hp : H p = none) : Cfg g (upd S p o) ρ F st (upd H p o) ∧ Le S (upd S p o) ρ ρ := by
  obtain ⟨hs, hf⟩ := c.fresh hp
  have le : Le S (upd S p o) ρ ρ := ⟨fun a u h => by rw [upd_ne (ne_of_none h hs)]; exact h, fun _ _ h => h⟩
  have kp : ∀ b u, H b = some u → upd H p o b = some u := fun b u e => by rw [upd_ne (ne_of_none e hp)]; exact e
  refine ⟨⟨fun a u h => ?_, fun a u h => kp a u (c.fra a u h), fun a u h => ?_, c.tab.ext kp, fun q hq => ?_, c.len, fun n d h => ?_, c.inj⟩, le⟩
  · by_cases e : a = p
    · subst e; rw [upd_same] at h ⊢; exact h
    · rw [upd_ne e] at h ⊢; exact c.sub a u h
  · rw [upd_ne (ne_of_none h hf)]; exact c.dis a u h
  · refine ⟨?_, (c.noT q hq).2⟩
    obtain ⟨ps, e, _⟩ := c.tab q hq
    rw [upd_ne (ne_of_none e hp)]
    exact (c.noT q hq).1
  · obtain ⟨a, h1, h2, h3, h4⟩ := c.liv n d h
    obtain ⟨xs, e⟩ := h4.there
    exact ⟨a, h1, by rw [upd_ne (ne_of_none e hp)]; exact h2, h3, h4.mono le (kp a)⟩
theorem get_app {α : Type} {l : List α} {x y : α} {n : Nat} (h : (l ++ [x])[n]? = some y) : l[n]? = some y ∨ (n = l.length ∧ y = x) := by
  by_cases hn : n < l.length
  · rw [List.getElem?_append_left hn] at h; exact .inl h
  · rw [List.getElem?_append_right (by omega)] at h
    have : n - l.length = 0 := by
      cases e : n - l.length with
      | zero => rfl
      | succ k => rw [e] at h; simp at h
    rw [this] at h
    simp at h
    exact .inr ⟨by omega, h.symm⟩
theorem get_app_l {α : Type} {l : List α} {x y : α} {n : Nat} (h : l[n]? = some y) : (l ++ [x])[n]? = some y := by
  have hn : n < l.length := (List.getElem?_eq_some_iff.mp h).1
  rw [List.getElem?_append_left hn]; exact h
/-- a new list, a cell -/
theorem Cfg.celled (c : Cfg g S ρ F st H) {p : Addr} {xs : List V} {ds : List D} (hp : H p = none) (r : DVs g S ρ xs ds) :
    Cfg g S (ρ ++ [p]) F (st ++ [some (.lst ds)]) (upd H p (.lst xs)) ∧ Le S S ρ (ρ ++ [p]) := by
  obtain ⟨hs, hf⟩ := c.fresh hp
  have le : Le S S ρ (ρ ++ [p]) := ⟨fun _ _ h => h, fun n a h => get_app_l h⟩
  have kp : ∀ b u, H b = some u → upd H p (.lst xs) b = some u := fun b u e => by rw [upd_ne (ne_of_none e hp)]; exact e
  have no : ∀ (n : Nat) (d : Cell) (a : Addr), st[n]? = some (some d) → ρ[n]? = some a → a ≠ p := fun n d a h ha => by
    obtain ⟨b, h1, _, _, h4⟩ := c.liv n d h
    rw [ha] at h1; cases h1
    obtain ⟨ys, e⟩ := h4.there
    exact ne_of_none e hp
  refine ⟨⟨fun a u h => kp a u (c.sub a u h), fun a u h => kp a u (c.fra a u h), c.dis, c.tab.ext kp, c.noT, by simp [c.len], fun n d h => ?_, fun n m d d' a h1 h2 h3 h4 => ?_⟩, le⟩
  · rcases get_app h with h | ⟨e, h⟩
    · obtain ⟨a, h1, h2, h3, h4⟩ := c.liv n d h
      exact ⟨a, get_app_l h1, h2, h3, h4.mono le (kp a)⟩
    · cases h
      refine ⟨p, ?_, hs, hf, xs, upd_same, r.mono le⟩
      rw [e, ← c.len]
      simp
  · rcases get_app h1 with h1 | ⟨e1, h1⟩
    · rcases get_app h2 with h2 | ⟨e2, h2⟩
      · rcases get_app h3 with h3 | ⟨e3, _⟩
        · rcases get_app h4 with h4 | ⟨e4, _⟩
          · exact c.inj n m d d' a h1 h2 h3 h4
          · have z := (List.getElem?_eq_some_iff.mp h2).1
            rw [e4, c.len] at z
            exact absurd z (Nat.lt_irrefl _)
        · have z := (List.getElem?_eq_some_iff.mp h1).1
          rw [e3, c.len] at z
          exact absurd z (Nat.lt_irrefl _)
      · rcases get_app h3 with h3 | ⟨e3, _⟩
        · have z : (ρ ++ [p])[m]? = some p := by rw [e2, ← c.len]; simp
          rw [z] at h4; cases h4
          exact absurd rfl (no n d p h1 h3)
        · have z := (List.getElem?_eq_some_iff.mp h1).1
          rw [e3, c.len] at z
          exact absurd z (Nat.lt_irrefl _)
    · rcases get_app h2 with h2 | ⟨e2, h2⟩
      · rcases get_app h4 with h4 | ⟨e4, _⟩
        · have z : (ρ ++ [p])[n]? = some p := by rw [e1, ← c.len]; simp
          rw [z] at h3; cases h3
          exact absurd rfl (no m d' p h2 h4)
        · have z := (List.getElem?_eq_some_iff.mp h2).1
          rw [e4, c.len] at z
          exact absurd z (Nat.lt_irrefl _)
      · rw [e1, e2]
/-- a cell is written -/
theorem Cfg.written (c : Cfg g S ρ F st H) {n : Nat} {d : Cell} {a : Addr} {xs : List V} {ds : List D} (h : st[n]? = some (some d)) (ha : ρ[n]? = some a) (r : DVs g S ρ xs ds) :
    Cfg g S ρ F (st.set n (some (.lst ds))) (upd H a (.lst xs)) := by
  obtain ⟨b, h1, hs, hf, h4⟩ := c.liv n d h
  rw [ha] at h1; cases h1
  obtain ⟨ys, e⟩ := h4.there
  have nS : ∀ b u, S b = some u → b ≠ a := fun b u q z => by rw [z, hs] at q; cases q
  have nF : ∀ b u, F b = some u → b ≠ a := fun b u q z => by rw [z, hf] at q; cases q
  have live : ∀ m x, (st.set n (some (.lst ds)))[m]? = some (some x) → ∃ y, st[m]? = some (some y) := fun m x q => by
    by_cases hm : m = n
    · subst hm; exact ⟨d, h⟩
    · rw [List.getElem?_set_ne (Ne.symm hm)] at q; exact ⟨x, q⟩
  refine ⟨fun b u q => by rw [upd_ne (nS b u q)]; exact c.sub b u q, fun b u q => by rw [upd_ne (nF b u q)]; exact c.fra b u q, c.dis, fun p hp => ?_, c.noT, by simp [c.len], fun m x q => ?_, fun m k x y b h1 h2 h3 h4 => ?_⟩
  · obtain ⟨ps, e1, e2, e3⟩ := c.tab p hp
    have ne : p.1 ≠ a := fun z => by rw [z, e] at e1; cases e1
    refine ⟨ps, by rw [upd_ne ne]; exact e1, e2, fun pos cv hc => ?_⟩
    obtain ⟨k, e4, e5⟩ := e3 pos cv hc
    have nk : k ≠ a := fun z => by rw [z, e] at e5; unfold CodeO at e5; cases e5
    exact ⟨k, e4, by rw [upd_ne nk]; exact e5⟩
  · by_cases hm : m = n
    · subst hm
      rw [List.getElem?_set_self (List.getElem?_eq_some_iff.mp h).1] at q
      cases q
      exact ⟨a, ha, hs, hf, xs, upd_same, r⟩
    · rw [List.getElem?_set_ne (Ne.symm hm)] at q
      obtain ⟨b, q1, q2, q3, q4⟩ := c.liv m x q
      have nb : b ≠ a := fun z => hm (c.inj m n x d a q h (z ▸ q1) ha)
      exact ⟨b, q1, q2, q3, q4.mono (Le.refl _ _) fun o e => by rw [upd_ne nb]; exact e⟩
  · obtain ⟨x', q1⟩ := live m x h1
    obtain ⟨y', q2⟩ := live k y h2
    exact c.inj m k x' y' b q1 q2 h3 h4
/-- a cell is frozen: from now on its list is immutable data -/
theorem Cfg.frozen (c : Cfg g S ρ F st H) {n : Nat} {ds : List D} {a : Addr} (h : st[n]? = some (some (.lst ds))) (ha : ρ[n]? = some a) :
    ∃ S', Cfg g S' ρ F (st.set n none) H ∧ Le S S' ρ ρ ∧ DV g S' ρ (.ref a) (.lst ds) := by
  obtain ⟨b, h1, hs, hf, xs, e, r⟩ := c.liv n _ h
  rw [ha] at h1; cases h1
  have le : Le S (upd S a (.lst xs)) ρ ρ := ⟨fun b u q => by rw [upd_ne (ne_of_none q hs)]; exact q, fun _ _ h => h⟩
  have live : ∀ m x, (st.set n none)[m]? = some (some x) → m ≠ n ∧ st[m]? = some (some x) := fun m x q => by
    by_cases hm : m = n
    · subst hm
      rw [List.getElem?_set_self (List.getElem?_eq_some_iff.mp h).1] at q
      cases q
    · rw [List.getElem?_set_ne (Ne.symm hm)] at q; exact ⟨hm, q⟩
  refine ⟨upd S a (.lst xs), ⟨fun b u q => ?_, c.fra, fun b u q => ?_, c.tab, fun p hp => ⟨?_, (c.noT p hp).2⟩, by simp [c.len], fun m x q => ?_, fun m k x y b h1 h2 h3 h4 => c.inj m k x y b (live m x h1).2 (live k y h2).2 h3 h4⟩, le, .lst upd_same (r.mono le)⟩
  · by_cases z : b = a
    · subst z; rw [upd_same] at q; cases q; exact e
    · rw [upd_ne z] at q; exact c.sub b u q
  · have nb : b ≠ a := fun z => by rw [z, hf] at q; cases q
    rw [upd_ne nb]; exact c.dis b u q
  · obtain ⟨ps, e1, _⟩ := c.tab p hp
    have ne : p.1 ≠ a := fun z => by rw [z, e] at e1; cases e1
    rw [upd_ne ne]; exact (c.noT p hp).1
  · obtain ⟨nm, q'⟩ := live m x q
    obtain ⟨b, q1, q2, q3, q4⟩ := c.liv m x q'
    have nb : b ≠ a := fun z => nm (c.inj m n x _ a q' h (z ▸ q1) ha)
    exact ⟨b, q1, by rw [upd_ne nb]; exact q2, q3, q4.mono le fun o e => e⟩
end
end FL
end
section
set_option Elab.async false
set_option linter.all false
set_option maxRecDepth 100000
set_option maxHeartbeats 2000000
namespace FL
open PySem PySem.Spec PyProof.Rows L2 LamX

/-! ## what a piece of the program comes to -/
inductive Res (α : Type) where
  | ok (a : α) (st : Sto)
  | ex (c : Str) (fs : List D) (st : Sto)
  | bad
abbrev Gam := List (Option D)
@[simp] def Res.bind {α β : Type} : Res α → (α → Sto → Res β) → Res β
  | .ok a st, f => f a st
  | .ex c fs st, _ => .ex c fs st
  | .bad, _ => .bad
/-- from what is read alone -/
@[simp] def Res.of {α : Type} : Option α → Sto → Res α
  | some a, st => .ok a st
  | none, _ => .bad
abbrev EF := Gam → Sto → Res D
abbrev AF := Gam → Sto → Res (List D)
abbrev TF := Gam → Sto → Res Bool

/-- an exception of the class of the name c with these fields: where its class stands, its own dict -/
def XR (g : Gx) (c : Str) (fs : List D) (cls : Value) (dd : Option Addr) (S : Hp) (ρ : List Addr) : Prop :=
  ∃ (C d : Addr) (vs : List V), g.mg c = some (.ref C) ∧ cls = .ref C ∧ dd = some d ∧ S d = some (.xd ((g.xa c).zip vs)) ∧ vs.length = (g.xa c).length ∧ DVs g S ρ vs fs
/-- from a result on: R tells how what is there is the datum; E is wished of exceptions -/
def RG {V' α : Type} (g : Gx) (E : XK) (F : Hp) (R : Hp → List Addr → V' → α → Prop) (S : Hp) (ρ : List Addr) (Q : V' → Hp → Prop) : Res α → Prop
  | .ok d st => ∀ v S' ρ' H', Le S S' ρ ρ' → Cfg g S' ρ' F st H' → R S' ρ' v d → Q v H'
  | .ex c fs st => ∀ cls dd S' ρ' H', Le S S' ρ ρ' → Cfg g S' ρ' F st H' → XR g c fs cls dd S' ρ' → E cls dd H'
  | .bad => False
section
variable {V' α V2 β : Type} {g : Gx} {E : XK} {F S S' : Hp} {ρ ρ' : List Addr} {R : Hp → List Addr → V' → α → Prop} {R2 : Hp → List Addr → V2 → β → Prop} {Q : V' → Hp → Prop} {Q2 : V2 → Hp → Prop}
theorem RG.mono {r : Res α} (h : RG g E F R S ρ Q r) (e : Le S S' ρ ρ') : RG g E F R S' ρ' Q r := by
  cases r with
  | ok d st => exact fun v S2 ρ2 H2 le c r => h v S2 ρ2 H2 (e.trans le) c r
  | ex c fs st => exact fun cls dd S2 ρ2 H2 le cc r => h cls dd S2 ρ2 H2 (e.trans le) cc r
  | bad => exact h
theorem RG.bind_ {r : Res α} {k : α → Sto → Res β} (h : RG g E F R2 S ρ Q2 (r.bind k)) :
    RG g E F R S ρ (fun v H => ∃ S1 ρ1 st d, Le S S1 ρ ρ1 ∧ Cfg g S1 ρ1 F st H ∧ R S1 ρ1 v d ∧ RG g E F R2 S1 ρ1 Q2 (k d st)) r := by
  cases r with
  | ok d st => exact fun v S1 ρ1 H1 le c r => ⟨S1, ρ1, st, d, le, c, r, RG.mono h le⟩
  | ex c fs st => exact h
  | bad => exact h
theorem RG.imp {r : Res α} {Q' : V' → Hp → Prop} (h : RG g E F R S ρ Q r) (k : ∀ v H, Q v H → Q' v H) : RG g E F R S ρ Q' r := by
  cases r with
  | ok d st => exact fun v S2 ρ2 H2 le c r => k _ _ (h v S2 ρ2 H2 le c r)
  | ex c fs st => exact h
  | bad => exact h
theorem RG.ok_ {d : α} {st : Sto} {v : V'} {H : Hp} (h : RG g E F R S ρ Q (.ok d st)) (c : Cfg g S ρ F st H) (r : R S ρ v d) : Q v H := h v S ρ H (Le.refl _ _) c r
end

/-! ## readings -/
def tG {V' α : Type} (g : Gx) (W : WX) (R : Hp → List Addr → V' → α → Prop) (f : Gam → Sto → Res α) : L2.St → Hp → (V' → Hp → Prop) → Prop := fun σ H Q =>
  ∃ γ S ρ F st, EnvR g S ρ σ γ ∧ Cfg g S ρ F st H ∧ RG g (fun cls dd H => W cls dd σ H) F R S ρ Q (f γ st)
def RBool : Hp → List Addr → Bool → Bool → Prop := fun _ _ b c => b = c
abbrev tF (g : Gx) (W : WX) (f : EF) : TE := tG g W (fun S ρ => DV g S ρ) f
abbrev tFA (g : Gx) (W : WX) (f : AF) : TA := tG g W (fun S ρ => DVs g S ρ) f
abbrev tFT (g : Gx) (W : WX) (f : TF) : TT := tG g W RBool f

/-- what follows an expression: the slots as they were -/
theorem tG_then {V' α V2 β : Type} {g : Gx} {W : WX} {R : Hp → List Addr → V' → α → Prop} {R2 : Hp → List Addr → V2 → β → Prop} {f : Gam → Sto → Res α} {k : Gam → α → Sto → Res β} {σ : L2.St} {H : Hp} {Q : V2 → Hp → Prop}
    (h : tG g W R2 (fun γ st => (f γ st).bind (k γ)) σ H Q) :
    tG g W R f σ H (fun v H1 => ∃ γ S ρ F st d, EnvR g S ρ σ γ ∧ Cfg g S ρ F st H1 ∧ R S ρ v d ∧ RG g (fun cls dd H => W cls dd σ H) F R2 S ρ Q (k γ d st)) := by
  obtain ⟨γ, S, ρ, F, st, he, hc, hr⟩ := h
  refine ⟨γ, S, ρ, F, st, he, hc, (RG.bind_ (R := R) hr).imp ?_⟩
  rintro v H1 ⟨S1, ρ1, st1, d, le, c1, r, h1⟩
  exact ⟨γ, S1, ρ1, F, st1, d, he.mono le, c1, r, h1⟩

theorem _root_.L2.PE.imp {X : Cx} {e : Expr} {t t' : TE} (h : PE X e t) (i : ∀ σ H Q, t' σ H Q → t σ H Q) : PE X e t' := ⟨fun pins s σ H Q I q => h.run pins s σ H Q I (i _ _ _ q)⟩
theorem _root_.L2.PT.imp {X : Cx} {e : Expr} {t t' : TT} (h : PT X e t) (i : ∀ σ H Q, t' σ H Q → t σ H Q) : PT X e t' := ⟨fun pins s σ H Q I q => h.run pins s σ H Q I (i _ _ _ q)⟩
theorem _root_.L2.PW.imp {X : Cx} {e : Expr} {t t' : TT} (h : PW X e t) (i : ∀ σ H Q, t' σ H Q → t σ H Q) : PW X e t' := ⟨fun wh pins s σ H Q I q => h.run wh pins s σ H Q I (i _ _ _ q)⟩
theorem _root_.L2.PA.imp {X : Cx} {es : List Expr} {t t' : TA} (h : PA X es t) (i : ∀ σ H Q, t' σ H Q → t σ H Q) : PA X es t' := ⟨fun pos pins s σ H Q I q => h.run pos pins s σ H Q I (i _ _ _ q)⟩
theorem _root_.L2.PS.imp {X : Cx} {e : Stmt} {t t' : TS} (h : PS X e t) (i : ∀ D σ H, t' D σ H → t D σ H) : PS X e t' := ⟨fun pins s σ H D I q => h.run pins s σ H D I (i _ _ _ q)⟩
theorem _root_.L2.PSs.imp {X : Cx} {e : List Stmt} {t t' : TS} (h : PSs X e t) (i : ∀ D σ H, t' D σ H → t D σ H) : PSs X e t' := ⟨fun pins s σ H D I q => h.run pins s σ H D I (i _ _ _ q)⟩
/-- how the context bears what is fixed -/
structure Gok (X : Cx) (g : Gx) : Prop where
  K : g.K = X.K
  mg : g.mg = X.mg

/-! ## names, constants -/
@[simp] def eVar (i : Nat) : EF := fun γ st => match γ[i]? with
  | some (some d) => .ok d st
  | _ => .bad
@[simp] def eC (d : D) : EF := fun _ st => .ok d st
section
variable {X : Cx} {g : Gx} {W : WX} {pos : Pos}
theorem fe_var (i : Nat) {x : Str} (hN : X.N[i]? = some x := by rfl) (hv : Vis X.env.scope x := by first | exact Or.inl rfl | exact Or.inr (Or.inl rfl) | exact Or.inr (Or.inr rfl)) (hd : (x == ("__debug__" : Str)) = false := by decide)
    (hcd : (x == ("__classdict__" : Str)) = false := by decide) : PE X (.Name x pos) (tF g W (eVar i)) := by
  refine (pe_var hN hv hd hcd).imp ?_
  rintro σ H Q ⟨γ, S, ρ, F, st, he, hc, h⟩
  unfold eVar at h
  split at h
  · rename_i d q
    obtain ⟨v, h1, h2⟩ := he.2 i d q
    exact ⟨v, h1, h.ok_ hc h2⟩
  · exact h.elim
theorem fe_int {i : Int} {j : Nat} : PE X (.Constant (.int i) j pos) (tF g W (eC (.int i))) := pe_int.imp fun σ H Q ⟨_, S, ρ, _, _, _, hc, h⟩ => h.ok_ hc (.int i)
theorem fe_bl {b : Bool} {j : Nat} : PE X (.Constant (.bool b) j pos) (tF g W (eC (.bl b))) := pe_bl.imp fun σ H Q ⟨_, S, ρ, _, _, _, hc, h⟩ => h.ok_ hc (.bl b)
theorem fe_non {j : Nat} : PE X (.Constant .none j pos) (tF g W (eC .non)) := pe_non.imp fun σ H Q ⟨_, S, ρ, _, _, _, hc, h⟩ => h.ok_ hc .non
theorem fe_str {x : Str} {j : Nat} : PE X (.Constant (.str x) j pos) (tF g W (eC (.str x))) := pe_str.imp fun σ H Q ⟨_, S, ρ, _, _, _, hc, h⟩ => h.ok_ hc (.str x)
/-- a constant of the module: a plain value, or an object of the written part -/
def ConstR (g : Gx) (u : Value) (d : D) : Prop := ∀ S ρ, ∃ v, RelV v u ∧ DV g S ρ v d
theorem fe_glob {x : Str} {u : Value} {d : D} (hK : Gok X g) (hm : X.mg x = some u) (hc : ConstR g u d) (hg : Gl X x := by rfl) (hd : (x == ("__debug__" : Str)) = false := by decide) : PE X (.Name x pos) (tF g W (eC d)) := by
  refine ⟨fun pins s σ H Q I h => ?_⟩
  obtain ⟨γ, S, ρ, F, st, he, hcf, h⟩ := h
  obtain ⟨v, h1, h2⟩ := hc S ρ
  exact ld_glob I hg hm ⟨v, H, I, h1, h.ok_ hcf h2⟩ hd
end

/-! ## operators -/
abbrev Op2 := Sto → D → D → Option D
/-- a two-place operation as data has it -/
def rD (g : Gx) (op : Op2) : R2 := fun x y H Q => ∃ d e r S ρ F st, Cfg g S ρ F st H ∧ DV g S ρ x d ∧ DV g S ρ y e ∧ op st d e = some r ∧
  ∀ v S' ρ' H', Le S S' ρ ρ' → Cfg g S' ρ' F st H' → DV g S' ρ' v r → Q v H'
@[simp] def e2 (op : Op2) (fa fb : EF) : EF := fun γ st => (fa γ st).bind fun d st1 => (fb γ st1).bind fun e st2 => Res.of (op st2 d e) st2
theorem tF_op2 {g : Gx} {W : WX} {op : Op2} {fa fb : EF} {σ : L2.St} {H : Hp} {Q : VK} (h : tF g W (e2 op fa fb) σ H Q) : tOp (rD g op) (tF g W fa) (tF g W fb) σ H Q := by
  have h' : tG g W (fun S ρ => DV g S ρ) (fun γ st => (fa γ st).bind fun d st1 => (fb γ st1).bind fun e st2 => Res.of (op st2 d e) st2) σ H Q := h
  obtain ⟨γ, S, ρ, F, st, he, hc, hr⟩ := h'
  refine ⟨γ, S, ρ, F, st, he, hc, (RG.bind_ (R := fun S ρ => DV g S ρ) hr).imp ?_⟩
  rintro x H1 ⟨S1, ρ1, st1, d, le1, c1, rx, h1⟩
  refine ⟨γ, S1, ρ1, F, st1, he.mono le1, c1, (RG.bind_ (R := fun S ρ => DV g S ρ) h1).imp ?_⟩
  rintro y H2 ⟨S2, ρ2, st2, e, le2, c2, ry, h2⟩
  cases q : op st2 d e with
  | none => rw [q] at h2; exact h2.elim
  | some r =>
    rw [q] at h2
    exact ⟨d, e, r, S2, ρ2, F, st2, c2, DV.mono le2 rx, ry, q, h2⟩
section
variable {X : Cx} {g : Gx} {W : WX} {pos : Pos} {a b c : Expr} {fa fb fc : EF} {op : Op2}
theorem fe_bin {o : Operator} (ho : OpR X (binaryOp o) (rD g op)) (ha : PE X a (tF g W fa)) (hb : PE X b (tF g W fb)) : PE X (.BinOp a o b pos) (tF g W (e2 op fa fb)) := (pe_op ho ha hb).imp fun _ _ _ h => tF_op2 h
theorem fe_cmp {o : CmpOp} (ho : OpR X (compareOp o) (rD g op)) (ha : PE X a (tF g W fa)) (hb : PE X b (tF g W fb)) (hm : behindInMarks o b = false) : PE X (.Compare a [o] [b] pos) (tF g W (e2 op fa fb)) := (pe_cmpR ho ha hb hm).imp fun _ _ _ h => tF_op2 h
theorem fe_ix (ho : IxR X (rD g op)) (ha : PE X a (tF g W fa)) (hb : PE X b (tF g W fb)) (hs : PlainIx b := by exact fun _ _ => rfl) : PE X (.Subscript a b pos) (tF g W (e2 op fa fb)) := (pe_ix ho ha hb hs).imp fun _ _ _ h => tF_op2 h
end
/-- one-place -/
abbrev Op1 := Sto → D → Option D
@[simp] def e1 (op : Op1) (fa : EF) : EF := fun γ st => (fa γ st).bind fun d st1 => Res.of (op st1 d) st1
def rD1 (g : Gx) (op : Op1) : V → Hp → VK → Prop := fun x H Q => ∃ d r S ρ F st, Cfg g S ρ F st H ∧ DV g S ρ x d ∧ op st d = some r ∧
  ∀ v S' ρ' H', Le S S' ρ ρ' → Cfg g S' ρ' F st H' → DV g S' ρ' v r → Q v H'
theorem tF_op1 {g : Gx} {W : WX} {op : Op1} {fa : EF} {σ : L2.St} {H : Hp} {Q : VK} (h : tF g W (e1 op fa) σ H Q) : tF g W fa σ H fun x H1 => rD1 g op x H1 Q := by
  obtain ⟨γ, S, ρ, F, st, he, hc, hr⟩ := h
  refine ⟨γ, S, ρ, F, st, he, hc, (RG.bind_ (R := fun S ρ => DV g S ρ) (k := fun d st1 => Res.of (op st1 d) st1) hr).imp ?_⟩
  rintro x H1 ⟨S1, ρ1, st1, d, le1, c1, rx, h1⟩
  cases q : op st1 d with
  | none => rw [q] at h1; exact h1.elim
  | some r =>
    rw [q] at h1
    exact ⟨d, r, S1, ρ1, F, st1, c1, rx, q, h1⟩
section
variable {X : Cx} {g : Gx} {W : WX} {pos : Pos} {a : Expr} {fa : EF} {op : Op1}
theorem fe_un {o : UnaryOp} (ho : UnR X (unaryOp o) (rD1 g op)) (ha : PE X a (tF g W fa)) : PE X (.UnaryOp o a pos) (tF g W (e1 op fa)) := (pe_un ho ha).imp fun _ _ _ h => tF_op1 h
end

/-! ## arguments, displays -/
@[simp] def aNil : AF := fun _ st => .ok [] st
@[simp] def aCons (fa : EF) (fr : AF) : AF := fun γ st => (fa γ st).bind fun d st1 => (fr γ st1).bind fun ds st2 => .ok (d :: ds) st2
section
variable {X : Cx} {g : Gx} {W : WX} {pos : Pos} {e : Expr} {es : List Expr} {fa : EF} {fr : AF}
theorem fa_nil : PA X [] (tFA g W aNil) := pa_nil.imp fun σ H Q ⟨_, S, ρ, _, _, _, hc, h⟩ => h.ok_ hc .nil
theorem fa_cons (ha : PE X e (tF g W fa)) (hr : PA X es (tFA g W fr)) (hs : starEach (e :: es) X.env = (false, eval e X.env) :: starEach es X.env := by rfl) : PA X (e :: es) (tFA g W (aCons fa fr)) := by
  refine (pa_cons ha hr hs).imp ?_
  rintro σ H Q ⟨γ, S, ρ, F, st, he, hc, hr⟩
  refine ⟨γ, S, ρ, F, st, he, hc, (RG.bind_ (R := fun S ρ => DV g S ρ) (k := fun d st1 => (fr γ st1).bind fun ds st2 => .ok (d :: ds) st2) hr).imp ?_⟩
  rintro x H1 ⟨S1, ρ1, st1, d, le1, c1, rx, h1⟩
  refine ⟨γ, S1, ρ1, F, st1, he.mono le1, c1, (RG.bind_ (R := fun S ρ => DVs g S ρ) (k := fun ds st2 => .ok (d :: ds) st2) h1).imp ?_⟩
  rintro xs H2 ⟨S2, ρ2, st2, ds, le2, c2, rxs, h2⟩
  exact h2.ok_ c2 (.cons (DV.mono le2 rx) rxs)
/-- a tuple, an immutable list, a list that changes -/
@[simp] def kTup (ds : List D) (st : Sto) : Res D := if ds.length ≤ 16777216 then .ok (.tup ds) st else .bad
@[simp] def kLst (ds : List D) (st : Sto) : Res D := if ds.length ≤ 16777216 then .ok (.lst ds) st else .bad
@[simp] def kCel (ds : List D) (st : Sto) : Res D := if ds.length ≤ 16777216 then .ok (.cell st.length) (st ++ [some (.lst ds)]) else .bad
@[simp] def eTup (f : AF) : EF := fun γ st => (f γ st).bind kTup
@[simp] def eLst (f : AF) : EF := fun γ st => (f γ st).bind kLst
@[simp] def eCel (f : AF) : EF := fun γ st => (f γ st).bind kCel
theorem fe_tup {k : Nat} {f : AF} (ha : PA X es (tFA g W f)) : PE X (.Tuple es k pos) (tF g W (eTup f)) := by
  refine (pe_tup ha).imp ?_
  rintro σ H Q ⟨γ, S, ρ, F, st, he, hc, hr⟩
  refine ⟨γ, S, ρ, F, st, he, hc, (RG.bind_ (R := fun S ρ => DVs g S ρ) (k := kTup) hr).imp ?_⟩
  rintro xs H1 ⟨S1, ρ1, st1, ds, le1, c1, rx, h1⟩
  have hl := rx.length
  dsimp only [kTup, kLst, kCel] at h1
  split at h1
  · rename_i hz
    refine ⟨by rw [hl, sizeLine_eq]; exact hz, fun p hp => ?_⟩
    obtain ⟨c2, le2⟩ := c1.laid (p := p) (o := .tup xs) hp
    exact h1 _ _ _ _ le2 c2 (.tup (.inl (.inl upd_same)) (rx.mono le2))
  · exact h1.elim
theorem fe_lst {f : AF} (ha : PA X es (tFA g W f)) : PE X (.List es pos) (tF g W (eLst f)) := by
  refine (pe_lst ha).imp ?_
  rintro σ H Q ⟨γ, S, ρ, F, st, he, hc, hr⟩
  refine ⟨γ, S, ρ, F, st, he, hc, (RG.bind_ (R := fun S ρ => DVs g S ρ) (k := kLst) hr).imp ?_⟩
  rintro xs H1 ⟨S1, ρ1, st1, ds, le1, c1, rx, h1⟩
  have hl := rx.length
  dsimp only [kTup, kLst, kCel] at h1
  split at h1
  · rename_i hz
    refine ⟨by rw [hl, sizeLine_eq]; exact hz, fun p hp => ?_⟩
    obtain ⟨c2, le2⟩ := c1.laid (p := p) (o := .lst xs) hp
    exact h1 _ _ _ _ le2 c2 (.lst upd_same (rx.mono le2))
  · exact h1.elim
theorem fe_cel {f : AF} (ha : PA X es (tFA g W f)) : PE X (.List es pos) (tF g W (eCel f)) := by
  refine (pe_lst ha).imp ?_
  rintro σ H Q ⟨γ, S, ρ, F, st, he, hc, hr⟩
  refine ⟨γ, S, ρ, F, st, he, hc, (RG.bind_ (R := fun S ρ => DVs g S ρ) (k := kCel) hr).imp ?_⟩
  rintro xs H1 ⟨S1, ρ1, st1, ds, le1, c1, rx, h1⟩
  have hl := rx.length
  dsimp only [kTup, kLst, kCel] at h1
  split at h1
  · rename_i hz
    refine ⟨by rw [hl, sizeLine_eq]; exact hz, fun p hp => ?_⟩
    obtain ⟨c2, le2⟩ := c1.celled hp rx
    exact h1 _ _ _ _ le2 c2 (.cell (by rw [← c1.len]; simp))
  · exact h1.elim
end

/-! ## tests -/
@[simp] def tAndF (ta tb : TF) : TF := fun γ st => (ta γ st).bind fun b st1 => if b then tb γ st1 else .ok false st1
@[simp] def tOrF (ta tb : TF) : TF := fun γ st => (ta γ st).bind fun b st1 => if b then .ok true st1 else tb γ st1
@[simp] def tNotF (ta : TF) : TF := fun γ st => (ta γ st).bind fun b st1 => .ok (!b) st1
/-- a value's truth -/
def truth (st : Sto) : D → Option Bool
  | .non => some false
  | .bl b => some b
  | .int i => some (i != 0)
  | .str s => if s.length ≤ 16777216 then some (s.length != 0) else none
  | .tup ds => some (!ds.isEmpty)
  | .lst ds => some (!ds.isEmpty)
  | .ro ds => some (!ds.isEmpty)
  | .cell n => match st[n]? with
    | some (some (.lst ds)) => some (!ds.isEmpty)
    | _ => none
  | _ => none
@[simp] def tVal (f : EF) : TF := fun γ st => (f γ st).bind fun d st1 => Res.of (truth st1 d) st1
section
variable {g : Gx} {S F H : Hp} {ρ : List Addr} {st : Sto} {v : V} {n : Nat} {a : Addr} {ds : List D}
theorem Cfg.sqT {xs : List V} (c : Cfg g S ρ F st H) (h : SqT g.K S a xs) : SqT g.K H a xs := (⟨c.sub, fun _ _ h => h⟩ : Le S H ρ ρ).sqT h
theorem Cfg.sqL {xs : List V} (c : Cfg g S ρ F st H) (h : SqL g.K S a xs) : SqL g.K H a xs := (⟨c.sub, fun _ _ h => h⟩ : Le S H ρ ρ).sqL h
/-- what stands at a cell -/
theorem Cfg.cell (c : Cfg g S ρ F st H) (r : DV g S ρ v (.cell n)) (h : st[n]? = some (some (.lst ds))) : ∃ a xs, v = .ref a ∧ ρ[n]? = some a ∧ H a = some (.lst xs) ∧ DVs g S ρ xs ds := by
  cases r with
  | cell e =>
    obtain ⟨b, h1, _, _, xs, h2, h3⟩ := c.liv n _ h
    rw [e] at h1; cases h1
    exact ⟨_, xs, rfl, e, h2, h3⟩
theorem isEmpty_dvs {g : Gx} {xs : List V} (r : DVs g S ρ xs ds) : (!xs.isEmpty) = !ds.isEmpty := by
  cases r <;> rfl
theorem truth_ok {d : D} {b : Bool} (c : Cfg g S ρ F st H) (r : DV g S ρ v d) (h : truth st d = some b) : TruV g.K v H b := by
  cases d with
  | non => cases r; cases h; rfl
  | bl x => cases r; cases h; rfl
  | int i => cases r; cases h; rfl
  | str s =>
    cases r
    simp only [truth] at h
    split at h
    · rename_i hz
      cases h
      refine ⟨by rw [sizeLine_eq]; exact hz, ?_⟩
      rw [Bool.eq_iff_iff]
      simp
    · cases h
  | tup ds =>
    cases r with
    | tup h1 h2 =>
      cases h
      exact .inr (.inl ⟨_, c.sqT h1, (isEmpty_dvs h2).symm⟩)
  | lst ds =>
    cases r with
    | lst h1 h2 =>
      cases h
      exact .inl ⟨_, SqL.of (c.sub _ _ h1), (isEmpty_dvs h2).symm⟩
  | ro ds =>
    cases r with
    | ro h1 h2 =>
      cases h
      exact .inl ⟨_, c.sqL h1, (isEmpty_dvs h2).symm⟩
  | cell n =>
    simp only [truth] at h
    split at h
    · rename_i ds q
      cases h
      obtain ⟨a, xs, rfl, _, h2, h3⟩ := c.cell r q
      exact .inl ⟨xs, SqL.of h2, (isEmpty_dvs h3).symm⟩
    · cases h
  | exc _ _ => cases h
  | dic => cases h
  | ty _ => cases h
  | cls _ => cases h
  | fn _ _ _ _ _ => cases h
end
section
variable {X : Cx} {g : Gx} {W : WX} {pos : Pos} {a b : Expr} {rest : List Expr} {fa : EF} {ta tb : TF}
theorem ft_val (hK : Gok X g) (ha : PE X a (tF g W fa)) (he : ∀ whole, isTrue a X.env whole = (do let v ← whole; standAt a.pos; holding [v] (truthy v)) := by intro _; rfl) : PT X a (tFT g W (tVal fa)) := by
  refine (pt_truth ha he).imp ?_
  rintro σ H Q ⟨γ, S, ρ, F, st, hv, hc, hr⟩
  refine ⟨γ, S, ρ, F, st, hv, hc, (RG.bind_ (R := fun S ρ => DV g S ρ) (k := fun d st1 => Res.of (truth st1 d) st1) hr).imp ?_⟩
  rintro x H1 ⟨S1, ρ1, st1, d, le1, c1, rx, h1⟩
  cases q : truth st1 d with
  | none => rw [q] at h1; exact h1.elim
  | some k =>
    rw [q] at h1
    exact ⟨k, by rw [← hK.K]; exact truth_ok c1 rx q, h1.ok_ c1 rfl⟩
theorem tFT_bool {f : TF} {k : Gam → Bool → Sto → Res Bool} {σ : L2.St} {H : Hp} {Q : Bool → Hp → Prop} (h : tFT g W (fun γ st => (f γ st).bind (k γ)) σ H Q) :
    tFT g W f σ H fun b H1 => tFT g W (fun γ st => k γ b st) σ H1 Q := by
  obtain ⟨γ, S, ρ, F, st, he, hc, hr⟩ := h
  refine ⟨γ, S, ρ, F, st, he, hc, (RG.bind_ (R := RBool) hr).imp ?_⟩
  rintro x H1 ⟨S1, ρ1, st1, d, le1, c1, rx, h1⟩
  have e : x = d := rx
  subst e
  exact ⟨γ, S1, ρ1, F, st1, he.mono le1, c1, h1⟩
theorem ft_not (ha : PT X a (tFT g W ta)) : PT X (.UnaryOp .Not a pos) (tFT g W (tNotF ta)) := by
  refine (pt_not ha).imp ?_
  intro σ H Q h
  have h2 := tFT_bool (f := ta) (k := fun _ b st1 => .ok (!b) st1) h
  obtain ⟨γ, S, ρ, F, st, he, hc, hr⟩ := h2
  refine ⟨γ, S, ρ, F, st, he, hc, hr.imp ?_⟩
  rintro b H1 ⟨γ, S, ρ, F, st, he, hc, hr⟩
  exact hr.ok_ hc rfl
theorem fw_and1 (ha : PT X a (tFT g W ta)) : PW X (.BoolOp .And [a] pos) (tFT g W ta) := pw_and1 ha
theorem fw_or1 (ha : PT X a (tFT g W ta)) : PW X (.BoolOp .Or [a] pos) (tFT g W ta) := pw_or1 ha
theorem fw_and (ha : PT X a (tFT g W ta)) (hb : PW X (.BoolOp .And (b :: rest) pos) (tFT g W tb)) : PW X (.BoolOp .And (a :: b :: rest) pos) (tFT g W (tAndF ta tb)) := by
  refine (pw_and ha hb).imp ?_
  intro σ H Q h
  have h2 := tFT_bool (f := ta) (k := fun γ b st1 => if b then tb γ st1 else .ok false st1) h
  obtain ⟨γ, S, ρ, F, st, he, hc, hr⟩ := h2
  refine ⟨γ, S, ρ, F, st, he, hc, hr.imp ?_⟩
  rintro c H1 h3
  cases c with
  | true => exact h3
  | false =>
    obtain ⟨γ, S, ρ, F, st, he, hc, hr⟩ := h3
    exact hr.ok_ hc rfl
theorem fw_or (ha : PT X a (tFT g W ta)) (hb : PW X (.BoolOp .Or (b :: rest) pos) (tFT g W tb)) : PW X (.BoolOp .Or (a :: b :: rest) pos) (tFT g W (tOrF ta tb)) := by
  refine (pw_or ha hb).imp ?_
  intro σ H Q h
  have h2 := tFT_bool (f := ta) (k := fun γ b st1 => if b then .ok true st1 else tb γ st1) h
  obtain ⟨γ, S, ρ, F, st, he, hc, hr⟩ := h2
  refine ⟨γ, S, ρ, F, st, he, hc, hr.imp ?_⟩
  rintro c H1 h3
  cases c with
  | false => exact h3
  | true =>
    obtain ⟨γ, S, ρ, F, st, he, hc, hr⟩ := h3
    exact hr.ok_ hc rfl
/-- a comparison as a test -/
theorem ft_cmp {o : CmpOp} {op : Op2} {fb : EF} (hop : ∀ st d e r, op st d e = some r → ∃ k, r = .bl k) (ho : OpR X (compareOp o) (rD g op)) (ha : PE X a (tF g W fa)) (hb : PE X b (tF g W fb)) (hm : behindInMarks o b = false) :
    PT X (.Compare a [o] [b] pos) (tFT g W (tVal (e2 op fa fb))) := by
  refine (pt_cmpR ho ha hb hm).imp ?_
  rintro σ H Q ⟨γ, S, ρ, F, st, hv, hc, hr⟩
  refine tF_op2 ⟨γ, S, ρ, F, st, hv, hc, ?_⟩
  simp only [tVal, e2] at hr ⊢
  generalize (fa γ st) = r1 at hr ⊢
  cases r1 with
  | bad => exact hr
  | ex c fs st1 => exact hr
  | ok d st1 =>
    simp only [Res.bind] at hr ⊢
    generalize (fb γ st1) = r2 at hr ⊢
    cases r2 with
    | bad => exact hr
    | ex c fs st1 => exact hr
    | ok e st2 =>
      simp only [Res.bind] at hr ⊢
      cases q : op st2 d e with
      | none => rw [q] at hr; exact hr
      | some r =>
        obtain ⟨k, rfl⟩ := hop st2 d e r q
        rw [q] at hr
        simp only [Res.of, Res.bind, truth] at hr ⊢
        intro v S' ρ' H' le c rv
        cases rv
        exact ⟨k, rfl, hr k S' ρ' H' le c rfl⟩
/-- a if t else b -/
@[simp] def eIf (t : TF) (fa fb : EF) : EF := fun γ st => (t γ st).bind fun k st1 => if k then fa γ st1 else fb γ st1
theorem fe_if {c : Expr} {fb : EF} (hc : PT X c (tFT g W ta)) (ha : PE X a (tF g W fa)) (hb : PE X b (tF g W fb)) : PE X (.IfExp c a b pos) (tF g W (eIf ta fa fb)) := by
  refine (pe_ifExp hc ha hb).imp ?_
  rintro σ H Q ⟨γ, S, ρ, F, st, he, hcf, hr⟩
  refine ⟨γ, S, ρ, F, st, he, hcf, (RG.bind_ (R := RBool) (k := fun k st1 => if k then fa γ st1 else fb γ st1) hr).imp ?_⟩
  rintro x H1 ⟨S1, ρ1, st1, d, le1, c1, rx, h1⟩
  have e : x = d := rx
  subst e
  cases x with
  | true => exact ⟨γ, S1, ρ1, F, st1, he.mono le1, c1, h1⟩
  | false => exact ⟨γ, S1, ρ1, F, st1, he.mono le1, c1, h1⟩
/-- and, or, not as values, all but the last a True or False -/
@[simp] def eAndB (fa fb : EF) : EF := fun γ st => (fa γ st).bind fun d st1 => match d with
  | .bl true => fb γ st1
  | .bl false => .ok (.bl false) st1
  | _ => .bad
@[simp] def eOrB (fa fb : EF) : EF := fun γ st => (fa γ st).bind fun d st1 => match d with
  | .bl true => .ok (.bl true) st1
  | .bl false => fb γ st1
  | _ => .bad
@[simp] def kNotB (d : D) (st : Sto) : Res D := match d with
  | .bl b => .ok (.bl !b) st
  | _ => .bad
@[simp] def eNotB (fa : EF) : EF := fun γ st => (fa γ st).bind kNotB
theorem fe_one {op : BoolOp} (ha : PE X a (tF g W fa)) : PE X (.BoolOp op [a] pos) (tF g W fa) := pe_one ha
theorem fe_and {fb : EF} (ha : PE X a (tF g W fa)) (hb : PE X (.BoolOp .And (b :: rest) pos) (tF g W fb)) : PE X (.BoolOp .And (a :: b :: rest) pos) (tF g W (eAndB fa fb)) := by
  refine (pe_and ha hb).imp ?_
  rintro σ H Q ⟨γ, S, ρ, F, st, he, hc, hr⟩
  refine ⟨γ, S, ρ, F, st, he, hc, (RG.bind_ (R := fun S ρ => DV g S ρ) (k := fun d st1 => match d with
    | .bl true => fb γ st1
    | .bl false => .ok (.bl false) st1
    | _ => .bad) hr).imp ?_⟩
  rintro x H1 ⟨S1, ρ1, st1, d, le1, c1, rx, h1⟩
  split at h1
  · cases rx
    exact ⟨true, rfl, ⟨γ, S1, ρ1, F, st1, he.mono le1, c1, h1⟩⟩
  · cases rx
    exact ⟨false, rfl, h1.ok_ c1 (.bl false)⟩
  · exact h1.elim
theorem fe_or {fb : EF} (ha : PE X a (tF g W fa)) (hb : PE X (.BoolOp .Or (b :: rest) pos) (tF g W fb)) : PE X (.BoolOp .Or (a :: b :: rest) pos) (tF g W (eOrB fa fb)) := by
  refine (pe_or ha hb).imp ?_
  rintro σ H Q ⟨γ, S, ρ, F, st, he, hc, hr⟩
  refine ⟨γ, S, ρ, F, st, he, hc, (RG.bind_ (R := fun S ρ => DV g S ρ) (k := fun d st1 => match d with
    | .bl true => .ok (.bl true) st1
    | .bl false => fb γ st1
    | _ => .bad) hr).imp ?_⟩
  rintro x H1 ⟨S1, ρ1, st1, d, le1, c1, rx, h1⟩
  split at h1
  · cases rx
    exact ⟨true, rfl, h1.ok_ c1 (.bl true)⟩
  · cases rx
    exact ⟨false, rfl, ⟨γ, S1, ρ1, F, st1, he.mono le1, c1, h1⟩⟩
  · exact h1.elim
theorem fe_not (ha : PE X a (tF g W fa)) : PE X (.UnaryOp .Not a pos) (tF g W (eNotB fa)) := by
  refine (pe_not ha).imp ?_
  rintro σ H Q ⟨γ, S, ρ, F, st, he, hc, hr⟩
  refine ⟨γ, S, ρ, F, st, he, hc, (RG.bind_ (R := fun S ρ => DV g S ρ) (k := kNotB) hr).imp ?_⟩
  rintro x H1 ⟨S1, ρ1, st1, d, le1, c1, rx, h1⟩
  dsimp only [kNotB] at h1
  split at h1
  · cases rx
    exact ⟨_, rfl, h1.ok_ c1 (.bl _)⟩
  · exact h1.elim
end
end FL
end
section
set_option Elab.async false
set_option linter.all false
set_option maxRecDepth 100000
set_option maxHeartbeats 2000000
namespace FL
open PySem PySem.Spec PyProof.Rows L2 LamX

/-! ## statements -/
inductive Fl where
  | nx (γ : Gam) (st : Sto)
  | rt (d : D) (st : Sto)
  | bk (γ : Gam) (st : Sto)
  | ct (γ : Gam) (st : Sto)
  | ex (c : Str) (fs : List D) (γ : Gam) (st : Sto)
  | bad
abbrev SF := Gam → Sto → Fl
@[simp] def Res.fl {α : Type} (γ : Gam) (k : α → Sto → Fl) : Res α → Fl
  | .ok d st => k d st
  | .ex c fs st => .ex c fs γ st
  | .bad => .bad
def FP (g : Gx) (W : WX) (F : Hp) (D' : Ends) (S : Hp) (ρ : List Addr) : Fl → Prop
  | .nx γ st => ∀ σ S' ρ' H, Le S S' ρ ρ' → EnvR g S' ρ' σ γ → Cfg g S' ρ' F st H → D'.nx σ H
  | .rt d st => ∀ v S' ρ' H, Le S S' ρ ρ' → Cfg g S' ρ' F st H → DV g S' ρ' v d → D'.rt v H
  | .bk γ st => ∀ σ S' ρ' H, Le S S' ρ ρ' → EnvR g S' ρ' σ γ → Cfg g S' ρ' F st H → D'.bk σ H
  | .ct γ st => ∀ σ S' ρ' H, Le S S' ρ ρ' → EnvR g S' ρ' σ γ → Cfg g S' ρ' F st H → D'.ct σ H
  | .ex c fs γ st => ∀ σ cls dd S' ρ' H, Le S S' ρ ρ' → EnvR g S' ρ' σ γ → Cfg g S' ρ' F st H → XR g c fs cls dd S' ρ' → W cls dd σ H
  | .bad => False
def tS (g : Gx) (W : WX) (f : SF) : TS := fun D' σ H => ∃ γ S ρ F st, EnvR g S ρ σ γ ∧ Cfg g S ρ F st H ∧ FP g W F D' S ρ (f γ st)
section
variable {g : Gx} {W : WX} {F S S' : Hp} {ρ ρ' : List Addr} {D' D2 : Ends}
theorem FP.mono {f : Fl} (h : FP g W F D' S ρ f) (e : Le S S' ρ ρ') : FP g W F D' S' ρ' f := by
  cases f with
  | nx γ st => exact fun σ S2 ρ2 H le => h σ S2 ρ2 H (e.trans le)
  | rt d st => exact fun v S2 ρ2 H le => h v S2 ρ2 H (e.trans le)
  | bk γ st => exact fun σ S2 ρ2 H le => h σ S2 ρ2 H (e.trans le)
  | ct γ st => exact fun σ S2 ρ2 H le => h σ S2 ρ2 H (e.trans le)
  | ex c fs γ st => exact fun σ cls dd S2 ρ2 H le => h σ cls dd S2 ρ2 H (e.trans le)
  | bad => exact h
theorem FP.nx_ {γ : Gam} {st : Sto} {σ : L2.St} {H : Hp} (h : FP g W F D' S ρ (.nx γ st)) (he : EnvR g S ρ σ γ) (c : Cfg g S ρ F st H) : D'.nx σ H := h σ S ρ H (Le.refl _ _) he c
/-- an expression ahead of what follows -/
theorem FP.fl_ {V' α : Type} {R : Hp → List Addr → V' → α → Prop} {r : Res α} {γ : Gam} {k : α → Sto → Fl} {σ : L2.St} (he : EnvR g S ρ σ γ) (h : FP g W F D' S ρ (r.fl γ k)) :
    RG g (fun cls dd H => W cls dd σ H) F R S ρ (fun v H => ∃ S1 ρ1 st d, Le S S1 ρ ρ1 ∧ Cfg g S1 ρ1 F st H ∧ R S1 ρ1 v d ∧ EnvR g S1 ρ1 σ γ ∧ FP g W F D' S1 ρ1 (k d st)) r := by
  cases r with
  | ok d st => exact fun v S1 ρ1 H1 le c r => ⟨S1, ρ1, st, d, le, c, r, he.mono le, FP.mono h le⟩
  | ex c fs st => exact fun cls dd S1 ρ1 H1 le cc x => h σ cls dd S1 ρ1 H1 le (he.mono le) cc x
  | bad => exact h
end
theorem tG_fl {V' α : Type} {g : Gx} {W : WX} {R : Hp → List Addr → V' → α → Prop} {f : Gam → Sto → Res α} {k : Gam → α → Sto → Fl} {σ : L2.St} {H : Hp} {D' : Ends} (h : tS g W (fun γ st => (f γ st).fl γ (k γ)) D' σ H) :
    tG g W R f σ H fun v H1 => ∃ γ S ρ F st d, EnvR g S ρ σ γ ∧ Cfg g S ρ F st H1 ∧ R S ρ v d ∧ FP g W F D' S ρ (k γ d st) := by
  obtain ⟨γ, S, ρ, F, st, he, hc, hr⟩ := h
  refine ⟨γ, S, ρ, F, st, he, hc, (FP.fl_ (R := R) he hr).imp ?_⟩
  rintro v H1 ⟨S1, ρ1, st1, d, le, c1, r, he1, h1⟩
  exact ⟨γ, S1, ρ1, F, st1, d, he1, c1, r, h1⟩

@[simp] def sNil : SF := fun γ st => .nx γ st
@[simp] def sSeq (f k : SF) : SF := fun γ st => match f γ st with
  | .nx γ1 st1 => k γ1 st1
  | .rt d st1 => .rt d st1
  | .bk γ1 st1 => .bk γ1 st1
  | .ct γ1 st1 => .ct γ1 st1
  | .ex c fs γ1 st1 => .ex c fs γ1 st1
  | .bad => .bad
@[simp] def sBad : SF := fun _ _ => .bad
section
variable {X : Cx} {g : Gx} {W : WX} {pos : Pos} {st : Stmt} {rest : List Stmt} {f k : SF} {e : Expr} {fe : EF}
theorem fs_nil : PSs X [] (tS g W sNil) := pss_nil.imp fun D' σ H ⟨γ, S, ρ, F, st, he, hc, h⟩ => h.nx_ he hc
theorem fs_cons (h1 : PS X st (tS g W f)) (h2 : PSs X rest (tS g W k)) : PSs X (st :: rest) (tS g W (sSeq f k)) := by
  refine (pss_cons h1 h2).imp ?_
  rintro D' σ H ⟨γ, S, ρ, F, sto, he, hc, h⟩
  refine ⟨γ, S, ρ, F, sto, he, hc, ?_⟩
  dsimp only [sSeq] at h
  cases q : f γ sto with
  | nx γ1 st1 => rw [q] at h; exact fun σ1 S1 ρ1 H1 le he1 c1 => ⟨γ1, S1, ρ1, F, st1, he1, c1, FP.mono h le⟩
  | rt d st1 => rw [q] at h; exact h
  | bk γ1 st1 => rw [q] at h; exact h
  | ct γ1 st1 => rw [q] at h; exact h
  | ex c fs γ1 st1 => rw [q] at h; exact h
  | bad => rw [q] at h; exact h
theorem fs_one (h1 : PS X st (tS g W f)) : PSs X [st] (tS g W f) := pss_one h1
theorem fs_never : PS X st (tS g W sBad) := ps_never.imp fun _ _ _ ⟨_, _, _, _, _, _, _, h⟩ => h
theorem fs_nevers {sts : List Stmt} : PSs X sts (tS g W sBad) := pss_never.imp fun _ _ _ ⟨_, _, _, _, _, _, _, h⟩ => h
theorem fs_pass : PS X (.Pass pos) (tS g W sNil) := ps_pass.imp fun D' σ H ⟨γ, S, ρ, F, st, he, hc, h⟩ => h.nx_ he hc
@[simp] def sBreak : SF := fun γ st => .bk γ st
@[simp] def sCont : SF := fun γ st => .ct γ st
theorem fs_break : PS X (.Break pos) (tS g W sBreak) := ps_break.imp fun D' σ H ⟨γ, S, ρ, F, st, he, hc, h⟩ => h σ S ρ H (Le.refl _ _) he hc
theorem fs_continue : PS X (.Continue pos) (tS g W sCont) := ps_continue.imp fun D' σ H ⟨γ, S, ρ, F, st, he, hc, h⟩ => h σ S ρ H (Le.refl _ _) he hc
theorem fs_doc {x j pos pos'} : PS X (.Expr (.Constant (.str x) j pos) pos') (tS g W sNil) := ps_doc.imp fun D' σ H ⟨γ, S, ρ, F, st, he, hc, h⟩ => h.nx_ he hc
/-- an expression whose value is dropped -/
@[simp] def sDrop (fe : EF) : SF := fun γ st => (fe γ st).fl γ fun _ st1 => .nx γ st1
theorem fs_expr (he : PE X e (tF g W fe)) (hs : swapsWith e none pos.line X.env = pure false := by rfl) : PS X (.Expr e pos) (tS g W (sDrop fe)) := by
  refine (ps_expr he hs).imp ?_
  intro D' σ H h
  obtain ⟨γ, S, ρ, F, st, he, hc, hr⟩ := tG_fl (R := fun S ρ => DV g S ρ) (k := fun γ _ st1 => .nx γ st1) h
  refine ⟨γ, S, ρ, F, st, he, hc, hr.imp ?_⟩
  rintro v H1 ⟨γ, S, ρ, F, st, d, he, hc, r, h⟩
  exact h.nx_ he hc
@[simp] def sRet (fe : EF) : SF := fun γ st => (fe γ st).fl γ fun d st1 => .rt d st1
theorem fs_ret (he : PE X e (tF g W fe)) : PS X (.Return (some e) pos) (tS g W (sRet fe)) := by
  refine (ps_ret he).imp ?_
  intro D' σ H h
  obtain ⟨γ, S, ρ, F, st, he, hc, hr⟩ := tG_fl (R := fun S ρ => DV g S ρ) (k := fun γ d st1 => .rt d st1) h
  refine ⟨γ, S, ρ, F, st, he, hc, hr.imp ?_⟩
  rintro v H1 ⟨γ, S, ρ, F, st, d, he, hc, r, h⟩
  exact h v S ρ H1 (Le.refl _ _) hc r
@[simp] def sRetN : SF := fun _ st => .rt .non st
theorem fs_retN : PS X (.Return none pos) (tS g W sRetN) := ps_retN.imp fun D' σ H ⟨γ, S, ρ, F, st, he, hc, h⟩ => h .non S ρ H (Le.refl _ _) hc .non
@[simp] def sIf (t : TF) (f k : SF) : SF := fun γ st => (t γ st).fl γ fun b st1 => if b then f γ st1 else k γ st1
theorem fs_if {c : Expr} {a b : List Stmt} {tc : TF} (hc : PT X c (tFT g W tc)) (ha : PSs X a (tS g W f)) (hb : PSs X b (tS g W k)) : PS X (.If c a b pos) (tS g W (sIf tc f k)) := by
  refine (ps_if hc ha hb).imp ?_
  intro D' σ H h
  obtain ⟨γ, S, ρ, F, st, he, hc, hr⟩ := tG_fl (R := RBool) (k := fun γ b st1 => if b then f γ st1 else k γ st1) h
  refine ⟨γ, S, ρ, F, st, he, hc, hr.imp ?_⟩
  rintro v H1 ⟨γ, S, ρ, F, st, d, he, hc, r, h⟩
  have z : v = d := r
  subst z
  cases v with
  | true => exact ⟨γ, S, ρ, F, st, he, hc, h⟩
  | false => exact ⟨γ, S, ρ, F, st, he, hc, h⟩
end

/-! ## targets -/
inductive Tg where
  | nm (i : Nat)
  | tp (ts : List Tg)
  | ls (ts : List Tg)
mutual
@[simp] def Tg.put : Tg → D → Gam → Option Gam
  | .nm i, d, γ => some (γ.set i (some d))
  | .tp ts, .tup ds, γ => Tg.puts ts ds γ
  | .ls ts, .lst ds, γ => Tg.puts ts ds γ
  | _, _, _ => none
@[simp] def Tg.puts : List Tg → List D → Gam → Option Gam
  | [], [], γ => some γ
  | t :: ts, d :: ds, γ => match Tg.put t d γ with
    | some γ1 => Tg.puts ts ds γ1
    | none => none
  | _, _, _ => none
end
mutual
def Tg.slots : Tg → List Nat
  | .nm i => [i]
  | .tp ts => Tg.slotss ts
  | .ls ts => Tg.slotss ts
def Tg.slotss : List Tg → List Nat
  | [] => []
  | t :: ts => t.slots ++ Tg.slotss ts
end
/-- the slots but some are as they were -/
def Out (l : List Nat) (σ σ' : L2.St) : Prop := σ'.length = σ.length ∧ ∀ j, j ∉ l → σ'[j]? = σ[j]?
theorem Out.trans {l l' : List Nat} {σ σ1 σ2 : L2.St} (a : Out l σ σ1) (b : Out l' σ1 σ2) : Out (l ++ l') σ σ2 :=
  ⟨b.1.trans a.1, fun j hj => (b.2 j fun z => hj (List.mem_append_right _ z)).trans (a.2 j fun z => hj (List.mem_append_left _ z))⟩
def tTG (g : Gx) (t : Tg) : TG := fun v σ H Q => ∃ d γ γ' S ρ F st, EnvR g S ρ σ γ ∧ Cfg g S ρ F st H ∧ DV g S ρ v d ∧ t.put d γ = some γ' ∧ ∀ σ', EnvR g S ρ σ' γ' → Out t.slots σ σ' → Q σ' H
def tTGs (g : Gx) (ts : List Tg) : TGs := fun vs σ H Q => ∃ ds γ γ' S ρ F st, EnvR g S ρ σ γ ∧ Cfg g S ρ F st H ∧ DVs g S ρ vs ds ∧ Tg.puts ts ds γ = some γ' ∧ ∀ σ', EnvR g S ρ σ' γ' → Out (Tg.slotss ts) σ σ' → Q σ' H
theorem _root_.L2.PG.imp {X : Cx} {e : Expr} {t t' : TG} (h : PG X e t) (i : ∀ v σ H Q, t' v σ H Q → t v σ H Q) : PG X e t' := ⟨fun pins s σ H v u Q I r q => h.run pins s σ H v u Q I r (i _ _ _ _ q)⟩
theorem _root_.L2.PGs.imp {X : Cx} {e : List Expr} {t t' : TGs} (h : PGs X e t) (i : ∀ v σ H Q, t' v σ H Q → t v σ H Q) : PGs X e t' := ⟨fun pins s σ H v u Q I r q => h.run pins s σ H v u Q I r (i _ _ _ _ q)⟩
section
variable {X : Cx} {g : Gx} {pos : Pos}
theorem fg_nm (i : Nat) {x : Str} (hN : X.N.Nodup) (hi : X.N[i]? = some x := by rfl) (hx : Loc X.env.scope x := by first | exact Or.inl rfl | exact Or.inr rfl) (hf : X.fn x = true ∨ X.env.scope.names.lookup x = some .local := by first | exact .inl rfl | exact .inr rfl | assumption) :
    PG X (.Name x pos) (tTG g (.nm i)) := by
  refine (pg_name hN hi hx hf).imp ?_
  rintro v σ H Q ⟨d, γ, γ', S, ρ, F, st, he, hc, r, hp, h⟩
  simp only [Tg.put, Option.some.injEq] at hp
  subst hp
  exact h _ (he.set i r) ⟨by simp, fun j hj => List.getElem?_set_ne (fun z => hj (by simp [Tg.slots, z]))⟩
theorem fg_nil : PGs X [] (tTGs g []) := by
  refine pgs_nil.imp ?_
  rintro v σ H Q ⟨ds, γ, γ', S, ρ, F, st, he, hc, r, hp, h⟩
  cases r with
  | nil =>
    simp only [Tg.puts, Option.some.injEq] at hp
    subst hp
    exact ⟨rfl, h _ he ⟨rfl, fun _ _ => rfl⟩⟩
  | cons _ _ => simp [Tg.puts] at hp
theorem fg_cons {e : Expr} {es : List Expr} {t : Tg} {ts : List Tg} (h1 : PG X e (tTG g t)) (h2 : PGs X es (tTGs g ts)) (hs : (assignEach (e :: es) X.env).map (·.2) = assign e X.env :: (assignEach es X.env).map (·.2) := by rfl) :
    PGs X (e :: es) (tTGs g (t :: ts)) := by
  refine (pgs_cons h1 h2 hs).imp ?_
  rintro v σ H Q ⟨ds, γ, γ', S, ρ, F, st, he, hc, r, hp, h⟩
  cases r with
  | nil => simp [Tg.puts] at hp
  | @cons v vs d ds r1 r2 =>
    simp only [Tg.puts] at hp
    cases q : t.put d γ with
    | none => rw [q] at hp; cases hp
    | some γ1 =>
      rw [q] at hp
      refine ⟨v, vs, rfl, d, γ, γ1, S, ρ, F, st, he, hc, r1, q, fun σ1 he1 o1 => ?_⟩
      exact ⟨ds, γ1, γ', S, ρ, F, st, he1, hc, r2, hp, fun σ2 he2 o2 => h σ2 he2 (o1.trans o2)⟩
theorem puts_len : ∀ {ts : List Tg} {ds : List D} {γ γ' : Gam}, Tg.puts ts ds γ = some γ' → ds.length = ts.length
  | [], [], _, _, _ => rfl
  | t :: ts, d :: ds, γ, γ', h => by
    simp only [Tg.puts] at h
    cases q : t.put d γ with
    | none => rw [q] at h; cases h
    | some γ1 => rw [q] at h; simp [puts_len h]
  | [], _ :: _, _, _, h => by simp [Tg.puts] at h
  | _ :: _, [], _, _, h => by simp [Tg.puts] at h
theorem fg_tup {es : List Expr} {k : Nat} {ts : List Tg} (hK : Gok X g) (hc : X.calm = true) (h : PGs X es (tTGs g ts)) (hn : (assignEach es X.env).length = ts.length := by rfl) (hst : (assignEach es X.env).findIdx? (·.1) = none := by rfl) :
    PG X (.Tuple es k pos) (tTG g (.tp ts)) := by
  refine (pg_tup hc h hn hst).imp ?_
  rintro v σ H Q ⟨d, γ, γ', S, ρ, F, st, he, hc, r, hp, h⟩
  cases d with
  | tup ds =>
    simp only [Tg.put] at hp
    cases r with
    | @tup a xs ds h1 h2 => exact ⟨a, xs, rfl, by rw [← hK.K]; exact hc.sqT h1, by rw [h2.length, puts_len hp], ds, γ, γ', S, ρ, F, st, he, hc, h2, hp, h⟩
  | _ => simp [Tg.put] at hp
theorem fg_lst {es : List Expr} {k : Nat} {ts : List Tg} (hK : Gok X g) (hc : X.calm = true) (h : PGs X es (tTGs g ts)) (hn : (assignEach es X.env).length = ts.length := by rfl) (hst : (assignEach es X.env).findIdx? (·.1) = none := by rfl) :
    PG X (.Tuple es k pos) (tTG g (.ls ts)) := by
  refine (pg_lst hc h hn hst).imp ?_
  rintro v σ H Q ⟨d, γ, γ', S, ρ, F, st, he, hc, r, hp, h⟩
  cases d with
  | lst ds =>
    simp only [Tg.put] at hp
    cases r with
    | @lst a xs ds h1 h2 => exact ⟨a, xs, rfl, by rw [← hK.K]; exact SqL.of (hc.sub _ _ h1), by rw [h2.length, puts_len hp], ds, γ, γ', S, ρ, F, st, he, hc, h2, hp, h⟩
  | _ => simp [Tg.put] at hp
/-- target = value -/
@[simp] def kPut (t : Tg) (γ : Gam) (d : D) (st : Sto) : Fl := match t.put d γ with
  | some γ1 => .nx γ1 st
  | none => .bad
@[simp] def sAsg (t : Tg) (fe : EF) : SF := fun γ st => (fe γ st).fl γ (kPut t γ)
variable {W : WX} {e : Expr} {fe : EF}
theorem tS_asg {t : Tg} {D' : Ends} {σ : L2.St} {H : Hp} (h : tS g W (sAsg t fe) D' σ H) : tAsg (tF g W fe) (tTG g t) D' σ H := by
  obtain ⟨γ, S, ρ, F, st, he, hc, hr⟩ := tG_fl (R := fun S ρ => DV g S ρ) (k := kPut t) h
  refine ⟨γ, S, ρ, F, st, he, hc, hr.imp ?_⟩
  rintro v H1 ⟨γ, S, ρ, F, st, d, he, hc, r, h⟩
  dsimp only [kPut] at h
  cases q : t.put d γ with
  | none => rw [q] at h; exact h.elim
  | some γ1 =>
    rw [q] at h
    exact ⟨d, γ, γ1, S, ρ, F, st, he, hc, r, q, fun σ' he' _ => h.nx_ he' hc⟩
theorem fs_asg {t : Tg} {tg : Expr} (he : PE X e (tF g W fe)) (hg : PG X tg (tTG g t)) (hs : swapsWithSole [tg] e pos.line X.env = pure false := by rfl) (hw : swappedStores [tg] e X.env = pure none := by rfl)
    (h1 : (assignEach [tg] X.env).map (·.2) = [assign tg X.env] := by rfl) : PS X (.Assign [tg] e pos) (tS g W (sAsg t fe)) := (ps_asg he hg hs hw h1).imp fun _ _ _ h => tS_asg h
theorem gName_of {i : Nat} {v : V} {σ : L2.St} {H : Hp} {Q : L2.St → Hp → Prop} (h : tTG g (.nm i) v σ H Q) : gName i v σ H Q := by
  obtain ⟨d, γ, γ', S, ρ, F, st, he, hc, r, hp, h⟩ := h
  simp only [Tg.put, Option.some.injEq] at hp
  subst hp
  exact h _ (he.set i r) ⟨by simp, fun j hj => List.getElem?_set_ne (fun z => hj (by simp [Tg.slots, z]))⟩
theorem fs_set (i : Nat) {x : Str} {pos' : Pos} (hN : X.N.Nodup) (he : PE X e (tF g W fe)) (hi : X.N[i]? = some x := by rfl) (hx : Loc X.env.scope x := by first | exact Or.inl rfl | exact Or.inr rfl)
    (hs : swapsWith e (some (.Name x pos')) pos.line X.env = pure false := by rfl) (hf : X.fn x = true ∨ X.env.scope.names.lookup x = some .local := by first | exact .inl rfl | exact .inr rfl | assumption) :
    PS X (.Assign [.Name x pos'] e pos) (tS g W (sAsg (.nm i) fe)) := by
  refine (ps_set hN hi hx he hs hf).imp ?_
  intro D' σ H h
  obtain ⟨γ, S, ρ, F, st, he, hc, hr⟩ := tS_asg h
  exact ⟨γ, S, ρ, F, st, he, hc, hr.imp fun v H1 h => gName_of h⟩
/-- a, b = x, y and a, b, c = x, y, z of local names -/
@[simp] def kPar (is : List Nat) (γ : Gam) (ds : List D) (st : Sto) : Fl := match is, ds with
  | [i, j], [d, e] => .nx ((γ.set i (some d)).set j (some e)) st
  | [i, j, l], [d, e, f] => .nx (((γ.set i (some d)).set j (some e)).set l (some f)) st
  | _, _ => .bad
@[simp] def sPar (is : List Nat) (fa : AF) : SF := fun γ st => (fa γ st).fl γ (kPar is γ)
theorem fs_par2 (i j : Nat) {x y : Str} {a b : Expr} {fa : AF} {px py pt : Pos} {kt k2 pt2} (hc : X.calm = true) (hN : X.N.Nodup) (ha : PA X [a, b] (tFA g W fa)) (hi : X.N[i]? = some x := by rfl) (hj : X.N[j]? = some y := by rfl) (hij : i ≠ j := by decide)
    (hx : X.env.scope.names.lookup x = some .local := by rfl) (hy : X.env.scope.names.lookup y = some .local := by rfl)
    (hw : swappedStores [.Tuple [.Name x px, .Name y py] kt pt] (.Tuple [a, b] k2 pt2) X.env = pure (some [x, y]) := by rfl)
    (hs : swapsWithSole [.Tuple [.Name x px, .Name y py] kt pt] (.Tuple [a, b] k2 pt2) pos.line X.env = pure false := by rfl) :
    PS X (.Assign [.Tuple [.Name x px, .Name y py] kt pt] (.Tuple [a, b] k2 pt2) pos) (tS g W (sPar [i, j] fa)) := by
  refine (ps_par hc hN hi hj hij hx hy ha hw hs).imp ?_
  intro D' σ H h
  obtain ⟨γ, S, ρ, F, st, he, hc, hr⟩ := tG_fl (R := fun S ρ => DVs g S ρ) (k := kPar [i, j]) h
  refine ⟨γ, S, ρ, F, st, he, hc, hr.imp ?_⟩
  rintro vs H1 ⟨γ, S, ρ, F, st, ds, he, hc, r, h⟩
  cases r with
  | nil => exact h.elim
  | cons r1 r => cases r with
    | nil => exact h.elim
    | cons r2 r => cases r with
      | nil => exact ⟨_, _, rfl, h.nx_ ((he.set i r1).set j r2) hc⟩
      | cons _ _ => exact h.elim
end

/-! ## while -/
@[simp] def whileF (c : TF) (b : SF) : Nat → Gam → Sto → Fl
  | 0, _, _ => .bad
  | n + 1, γ, st => (c γ st).fl γ fun k st1 => if k then (match b γ st1 with
      | .nx γ2 st2 => whileF c b n γ2 st2
      | .ct γ2 st2 => whileF c b n γ2 st2
      | .bk γ2 st2 => .nx γ2 st2
      | .rt d st2 => .rt d st2
      | .ex c fs γ2 st2 => .ex c fs γ2 st2
      | .bad => .bad) else .nx γ st1
@[simp] def sWhile (n : Gam → Sto → Nat) (c : TF) (b : SF) : SF := fun γ st => whileF c b (n γ st) γ st
section
variable {X : Cx} {g : Gx} {W : WX} {pos : Pos} {body : List Stmt} {fb : SF} {tc : TF} {c : Expr}
theorem fs_while (n : Gam → Sto → Nat) (hp : PassesOwn (model X.prog X.w) X.A X.env X.xe) (hc : PT X c (tFT g W tc)) (hb : PSs X body (tS g W fb)) : PS X (.While c body [] pos) (tS g W (sWhile n tc fb)) := by
  refine (ps_while hp hc hb).imp ?_
  rintro D' σ H ⟨γ, S, ρ, F, st, he, hc, h⟩
  refine ⟨fun m σ H => ∃ γ S ρ F st, EnvR g S ρ σ γ ∧ Cfg g S ρ F st H ∧ FP g W F D' S ρ (whileF tc fb m γ st), ⟨n γ st, γ, S, ρ, F, st, he, hc, h⟩, ?_⟩
  rintro m σ H ⟨γ, S, ρ, F, st, he, hc, h⟩
  cases m with
  | zero => exact h.elim
  | succ m =>
    refine ⟨γ, S, ρ, F, st, he, hc, (FP.fl_ (R := RBool) he h).imp ?_⟩
    rintro v H1 ⟨S1, ρ1, st1, d, le, c1, r, he1, h1⟩
    have z : v = d := r
    subst z
    cases v with
    | false => exact h1.nx_ he1 c1
    | true =>
      refine ⟨fun σ H => ∃ γ S ρ F st, EnvR g S ρ σ γ ∧ Cfg g S ρ F st H ∧ FP g W F D' S ρ (whileF tc fb m γ st), fun σ' H' q => ⟨m, Nat.lt_succ_self _, q⟩, γ, S1, ρ1, F, st1, he1, c1, ?_⟩
      simp only [if_true] at h1
      cases q : fb γ st1 with
      | nx γ2 st2 => rw [q] at h1; exact fun σ2 S2 ρ2 H2 le2 he2 c2 => ⟨γ2, S2, ρ2, F, st2, he2, c2, FP.mono h1 le2⟩
      | ct γ2 st2 => rw [q] at h1; exact fun σ2 S2 ρ2 H2 le2 he2 c2 => ⟨γ2, S2, ρ2, F, st2, he2, c2, FP.mono h1 le2⟩
      | bk γ2 st2 => rw [q] at h1; exact h1
      | rt d st2 => rw [q] at h1; exact h1
      | ex c fs γ2 st2 => rw [q] at h1; exact h1
      | bad => rw [q] at h1; exact h1
end

/-! ## what is walked -/
abbrev IF := Gam → Sto → Res (List D)
/-- J walks the items ds while S stands -/
structure Walks (g : Gx) (S0 : Hp) (ρ0 : List Addr) (J : It) (ds : List D) : Prop where
  go : ∀ i S ρ F st H, i < ds.length → Le S0 S ρ0 ρ → Cfg g S ρ F st H → J.go i H
  stop : ∀ S ρ F st H, Le S0 S ρ0 ρ → Cfg g S ρ F st H → J.stop ds.length H
  yld : ∀ i d S ρ F st H x H', ds[i]? = some d → Le S0 S ρ0 ρ → Cfg g S ρ F st H → J.yld i H x H' → ∃ S', Le S S' ρ ρ ∧ Cfg g S' ρ F st H' ∧ DV g S' ρ x d
theorem Walks.mono {g : Gx} {S S' : Hp} {ρ ρ' : List Addr} {J : It} {ds : List D} (w : Walks g S ρ J ds) (e : Le S S' ρ ρ') : Walks g S' ρ' J ds :=
  ⟨fun i S2 ρ2 F st H hi le c => w.go i S2 ρ2 F st H hi (e.trans le) c, fun S2 ρ2 F st H le c => w.stop S2 ρ2 F st H (e.trans le) c, fun i d S2 ρ2 F st H x H' hi le c y => w.yld i d S2 ρ2 F st H x H' hi (e.trans le) c y⟩
def tI (g : Gx) (W : WX) (f : IF) : TI := fun σ H R => ∃ γ S ρ F st, EnvR g S ρ σ γ ∧ Cfg g S ρ F st H ∧
  RG g (fun cls dd H => W cls dd σ H) F (fun S ρ J ds => Walks g S ρ J ds) S ρ R (f γ st)
theorem _root_.L2.PI.imp {X : Cx} {tg e : Expr} {t t' : TI} (h : PI X tg e t) (i : ∀ σ H R, t' σ H R → t σ H R) : PI X tg e t' := ⟨fun pins s σ H R I q => h.run pins s σ H R I (i _ _ _ q)⟩
@[simp] def kItems (d : D) (st : Sto) : Res (List D) := match d with
  | .lst ds => .ok ds st
  | .ro ds => .ok ds st
  | _ => .bad
@[simp] def kItemsT (d : D) (st : Sto) : Res (List D) := match d with
  | .tup ds => .ok ds st
  | _ => .bad
@[simp] def iLst (f : EF) : IF := fun γ st => (f γ st).bind kItems
@[simp] def iTup (f : EF) : IF := fun γ st => (f γ st).bind kItemsT
@[simp] def rangeD (lo : Int) (n : Nat) : List D := (List.range n).map fun (i : Nat) => D.int (lo + i)
@[simp] def kRng1 (ds : List D) (st : Sto) : Res (List D) := match ds with
  | [.int hi] => if -(2 ^ 62) ≤ hi ∧ hi < 2 ^ 62 then .ok (rangeD 0 hi.toNat) st else .bad
  | _ => .bad
@[simp] def kRng2 (ds : List D) (st : Sto) : Res (List D) := match ds with
  | [.int lo, .int hi] => if -(2 ^ 62) ≤ lo ∧ lo < 2 ^ 62 ∧ -(2 ^ 62) ≤ hi ∧ hi < 2 ^ 62 then .ok (rangeD lo (hi - lo).toNat) st else .bad
  | _ => .bad
@[simp] def iRng1 (f : AF) : IF := fun γ st => (f γ st).bind kRng1
@[simp] def iRng2 (f : AF) : IF := fun γ st => (f γ st).bind kRng2
section
variable {X : Cx} {g : Gx} {W : WX} {pos p : Pos} {e tg : Expr} {fe : EF}
theorem walks_list {S : Hp} {ρ : List Addr} {a : Addr} {xs : List V} {ds : List D} (h : SqL g.K S a xs) (r : DVs g S ρ xs ds) : Walks g S ρ (Itl g.K a) ds where
  go := fun i S2 ρ2 F st H hi le c => by
    have hl := r.length
    exact ⟨xs, xs[i]'(by omega), c.sqL (le.sqL h), by simp⟩
  stop := fun S2 ρ2 F st H le c => ⟨xs, c.sqL (le.sqL h), by rw [r.length]; exact Nat.le_refl _⟩
  yld := fun i d S2 ρ2 F st H x H' hi le c y => by
    obtain ⟨rfl, y⟩ := y
    obtain ⟨v, h1, h2⟩ := r.get hi
    have h3 := y xs (c.sqL (le.sqL h))
    rw [h1] at h3; cases h3
    exact ⟨S2, Le.refl _ _, c, h2.mono le⟩
theorem walks_tup {S : Hp} {ρ : List Addr} {a : Addr} {xs : List V} {ds : List D} (h : SqT g.K S a xs) (r : DVs g S ρ xs ds) : Walks g S ρ (Itt g.K a) ds where
  go := fun i S2 ρ2 F st H hi le c => by
    have hl := r.length
    exact ⟨xs, xs[i]'(by omega), c.sqT (le.sqT h), by simp⟩
  stop := fun S2 ρ2 F st H le c => ⟨xs, c.sqT (le.sqT h), by rw [r.length]; exact Nat.le_refl _⟩
  yld := fun i d S2 ρ2 F st H x H' hi le c y => by
    obtain ⟨rfl, y⟩ := y
    obtain ⟨v, h1, h2⟩ := r.get hi
    have h3 := y xs (c.sqT (le.sqT h))
    rw [h1] at h3; cases h3
    exact ⟨S2, Le.refl _ _, c, h2.mono le⟩
theorem walks_rng {S : Hp} {ρ : List Addr} {lo : Int} {n : Nat} : Walks g S ρ (Itr lo n) (rangeD lo n) where
  go := fun i S2 ρ2 F st H hi le c => by
    show i < n
    simpa using hi
  stop := fun S2 ρ2 F st H le c => by
    show n ≤ _
    simp
  yld := fun i d S2 ρ2 F st H x H' hi le c y => by
    obtain ⟨rfl, rfl⟩ := y
    have hn : i < n := by
      have := (List.getElem?_eq_some_iff.mp hi).1
      simpa using this
    rw [rangeD, List.getElem?_map, List.getElem?_range hn] at hi
    simp only [Option.map_some, Option.some.injEq] at hi
    subst hi
    exact ⟨S2, Le.refl _ _, c, .int _⟩
theorem fi_list (hK : Gok X g) (he : PE X e (tF g W fe)) : PI X tg e (tI g W (iLst fe)) := by
  refine (pi_list he).imp ?_
  rintro σ H R ⟨γ, S, ρ, F, st, hv, hc, hr⟩
  refine ⟨γ, S, ρ, F, st, hv, hc, (RG.bind_ (R := fun S ρ => DV g S ρ) (k := kItems) hr).imp ?_⟩
  rintro x H1 ⟨S1, ρ1, st1, d, le1, c1, rx, h1⟩
  cases d with
  | lst ds =>
    cases rx with
    | @lst a xs _ h2 h3 => exact ⟨a, rfl, ⟨xs, SqL.of (c1.sub _ _ h2)⟩, h1.ok_ c1 (by rw [← hK.K]; exact walks_list (SqL.of h2) h3)⟩
  | ro ds =>
    cases rx with
    | @ro a xs _ h2 h3 => exact ⟨a, rfl, ⟨xs, by rw [← hK.K]; exact c1.sqL h2⟩, h1.ok_ c1 (by rw [← hK.K]; exact walks_list h2 h3)⟩
  | _ => exact h1.elim
theorem fi_tup (hK : Gok X g) (he : PE X e (tF g W fe)) : PI X tg e (tI g W (iTup fe)) := by
  refine (pi_tup he).imp ?_
  rintro σ H R ⟨γ, S, ρ, F, st, hv, hc, hr⟩
  refine ⟨γ, S, ρ, F, st, hv, hc, (RG.bind_ (R := fun S ρ => DV g S ρ) (k := kItemsT) hr).imp ?_⟩
  rintro x H1 ⟨S1, ρ1, st1, d, le1, c1, rx, h1⟩
  cases d with
  | tup ds =>
    cases rx with
    | @tup a xs _ h2 h3 => exact ⟨a, rfl, ⟨xs, by rw [← hK.K]; exact c1.sqT h2⟩, h1.ok_ c1 (by rw [← hK.K]; exact walks_tup h2 h3)⟩
  | _ => exact h1.elim
theorem fi_rng1 {a : Expr} {fa : AF} (hm : X.mg "range" = none) (ha : PA X [a] (tFA g W fa)) (hg : Gl X "range" := by rfl) (hs : starEach [a] X.env = [(false, eval a X.env)] := by rfl) : PI X tg (.Call (.Name "range" p) [a] [] pos) (tI g W (iRng1 fa)) := by
  refine (pi_range1 hg hm ha hs).imp ?_
  rintro σ H R ⟨γ, S, ρ, F, st, hv, hc, hr⟩
  refine ⟨γ, S, ρ, F, st, hv, hc, (RG.bind_ (R := fun S ρ => DVs g S ρ) (k := kRng1) hr).imp ?_⟩
  rintro xs H1 ⟨S1, ρ1, st1, ds, le1, c1, rx, h1⟩
  dsimp only [kRng1] at h1
  split at h1
  · cases rx with
    | cons r rx =>
      cases rx
      cases r
      split at h1
      · rename_i hh
        exact ⟨_, rfl, hh.1, hh.2, h1.ok_ c1 walks_rng⟩
      · exact h1.elim
  · exact h1.elim
theorem fi_rng2 {a b : Expr} {fa : AF} (hm : X.mg "range" = none) (ha : PA X [a, b] (tFA g W fa)) (hg : Gl X "range" := by rfl) (hs : starEach [a, b] X.env = [(false, eval a X.env), (false, eval b X.env)] := by rfl) (hs2 : starEach [b] X.env = [(false, eval b X.env)] := by rfl) :
    PI X tg (.Call (.Name "range" p) [a, b] [] pos) (tI g W (iRng2 fa)) := by
  refine (pi_range2 hg hm ha hs hs2).imp ?_
  rintro σ H R ⟨γ, S, ρ, F, st, hv, hc, hr⟩
  refine ⟨γ, S, ρ, F, st, hv, hc, (RG.bind_ (R := fun S ρ => DVs g S ρ) (k := kRng2) hr).imp ?_⟩
  rintro xs H1 ⟨S1, ρ1, st1, ds, le1, c1, rx, h1⟩
  dsimp only [kRng2] at h1
  split at h1
  · cases rx with
    | cons r rx =>
      cases rx with
      | cons r' rx =>
        cases rx
        cases r
        cases r'
        split at h1
        · rename_i hh
          exact ⟨_, _, rfl, hh, h1.ok_ c1 walks_rng⟩
        · exact h1.elim
  · exact h1.elim
end

/-! ## for -/
@[simp] def forL (t : Tg) (b : SF) : List D → Gam → Sto → Fl
  | [], γ, st => .nx γ st
  | d :: ds, γ, st => match t.put d γ with
    | none => .bad
    | some γ1 => match b γ1 st with
      | .nx γ2 st2 => forL t b ds γ2 st2
      | .ct γ2 st2 => forL t b ds γ2 st2
      | .bk γ2 st2 => .nx γ2 st2
      | .rt d st2 => .rt d st2
      | .ex c fs γ2 st2 => .ex c fs γ2 st2
      | .bad => .bad
@[simp] def sFor (t : Tg) (f : IF) (b : SF) : SF := fun γ st => (f γ st).fl γ fun ds st1 => forL t b ds γ st1
section
variable {X : Cx} {g : Gx} {W : WX} {pos : Pos} {body : List Stmt} {fb : SF} {t : Tg} {tg iter : Expr} {fi : IF}
theorem fs_for (hp : PassesOwn (model X.prog X.w) X.A X.env X.xe) (hc : X.calm = true) (hi : PI X tg iter (tI g W fi)) (hg : PG X tg (tTG g t)) (hb : PSs X body (tS g W fb)) (hs : ∀ x, foldedSetIterable iter X.env x = pure x := by intro _; rfl) :
    PS X (.For tg iter body [] pos) (tS g W (sFor t fi fb)) := by
  refine (ps_for hp hc hi hg hb hs).imp ?_
  intro D' σ H h
  obtain ⟨γ, S, ρ, F, st, he, hc, h⟩ := h
  refine ⟨γ, S, ρ, F, st, he, hc, (FP.fl_ (R := fun S ρ J ds => Walks g S ρ J ds) he h).imp ?_⟩
  rintro J H1 ⟨S1, ρ1, st1, ds, le, c1, wk, he1, h1⟩
  refine ⟨fun i m σ H => m = ds.length - i ∧ i ≤ ds.length ∧ ∃ γ S ρ st, Le S1 S ρ1 ρ ∧ EnvR g S ρ σ γ ∧ Cfg g S ρ F st H ∧ FP g W F D' S ρ (forL t fb (ds.drop i) γ st), ⟨ds.length, by simp, Nat.zero_le _, γ, S1, ρ1, st1, Le.refl _ _, he1, c1, h1⟩, ?_⟩
  rintro i m σ2 H2 ⟨rfl, hi, γ2, S2, ρ2, st2, le2, he2, c2, h2⟩
  by_cases hlt : i < ds.length
  · have hd : ds.drop i = ds[i] :: ds.drop (i + 1) := List.drop_eq_getElem_cons hlt
    rw [hd] at h2
    have hget : ds[i]? = some ds[i] := List.getElem?_eq_getElem hlt
    refine .inr ⟨wk.go i S2 ρ2 F st2 H2 hlt le2 c2, fun σ H => ∃ γ S ρ st, Le S1 S ρ1 ρ ∧ EnvR g S ρ σ γ ∧ Cfg g S ρ F st H ∧ FP g W F D' S ρ (forL t fb (ds.drop (i + 1)) γ st), fun σ' H' q => ⟨ds.length - (i + 1), by omega, rfl, hlt, q⟩, fun x H' y => ?_⟩
    obtain ⟨S3, le3, c3, r3⟩ := wk.yld i _ S2 ρ2 F st2 H2 x H' hget le2 c2 y
    simp only [forL] at h2
    cases q : t.put ds[i] γ2 with
    | none => rw [q] at h2; exact h2.elim
    | some γ3 =>
      rw [q] at h2
      refine ⟨_, γ2, γ3, S3, ρ2, F, st2, he2.mono le3, c3, r3, q, fun σ' he' _ => ⟨γ3, S3, ρ2, F, st2, he', c3, ?_⟩⟩
      have h2' := FP.mono h2 le3
      cases qb : fb γ3 st2 with
      | nx γ4 st4 => simp only [qb] at h2'; exact fun σ4 S4 ρ4 H4 le4 he4 c4 => ⟨γ4, S4, ρ4, st4, le2.trans (le3.trans le4), he4, c4, FP.mono h2' le4⟩
      | ct γ4 st4 => simp only [qb] at h2'; exact fun σ4 S4 ρ4 H4 le4 he4 c4 => ⟨γ4, S4, ρ4, st4, le2.trans (le3.trans le4), he4, c4, FP.mono h2' le4⟩
      | bk γ4 st4 => simp only [qb] at h2'; exact h2'
      | rt d st4 => simp only [qb] at h2'; exact h2'
      | ex c fs γ4 st4 => simp only [qb] at h2'; exact h2'
      | bad => simp only [qb] at h2'; exact h2'
  · have e : i = ds.length := by omega
    subst e
    rw [List.drop_length] at h2
    exact .inl ⟨wk.stop S2 ρ2 F st2 H2 le2 c2, h2.nx_ he2 c2⟩
end

/-! ## comprehensions -/
@[simp] def wipeG (γ : Gam) : List Nat → Gam
  | [] => γ
  | v :: vs => (wipeG γ vs).set v none
theorem EnvR.wipes {g : Gx} {S : Hp} {ρ : List Addr} {σ : L2.St} {γ : Gam} (h : EnvR g S ρ σ γ) : ∀ vs : List Nat, EnvR g S ρ (L2.wipe σ vs) (wipeG γ vs)
  | [] => h
  | v :: vs => by unfold L2.wipe wipeG; exact (EnvR.wipes h vs).wipe v
theorem wipe_get (σ : L2.St) : ∀ (vs : List Nat) (j : Nat), (wipe σ vs)[j]? = if j ∈ vs then (σ[j]?).map (fun _ => none) else σ[j]?
  | [], j => by simp [wipe]
  | v :: vs, j => by
    unfold wipe
    have ih := wipe_get σ vs j
    by_cases hj : j = v
    · subst hj
      by_cases hl : j < (wipe σ vs).length
      · rw [List.getElem?_set_self hl]
        have hl' : j < σ.length := by rw [wipe_length] at hl; exact hl
        simp [List.getElem?_eq_getElem hl']
      · rw [List.getElem?_eq_none (by simpa using hl)]
        have hl' : σ.length ≤ j := by rw [wipe_length] at hl; omega
        simp [List.getElem?_eq_none hl']
    · rw [List.getElem?_set_ne (Ne.symm hj), ih]
      by_cases h2 : j ∈ vs
      · simp [h2]
      · simp [h2, hj]
theorem wipe_out {l vs : List Nat} {σ σ' : L2.St} (h : Out l (wipe σ vs) σ') (hl : ∀ i ∈ l, i ∈ vs) : wipe σ' vs = wipe σ vs := by
  have hw : ∀ j, (wipe σ vs)[j]? = if j ∈ vs then (σ[j]?).map (fun _ => none) else σ[j]? := wipe_get σ vs
  apply List.ext_getElem?
  intro j
  rw [wipe_get]
  by_cases hj : j ∈ vs
  · rw [if_pos hj, hw, if_pos hj]
    have e : σ'.length = σ.length := by rw [h.1, wipe_length]
    by_cases hlt : j < σ.length
    · rw [List.getElem?_eq_getElem hlt, List.getElem?_eq_getElem (by omega)]
      simp
    · rw [List.getElem?_eq_none (by omega), List.getElem?_eq_none (by omega)]
  · rw [if_neg hj, h.2 j (fun z => hj (hl j z))]
/-- no exception is let out -/
@[simp] def Res.nox {α : Type} : Res α → Res α
  | .ok a st => .ok a st
  | .ex _ _ _ => .bad
  | .bad => .bad
@[simp] def compL (t : Tg) (c : TF) (f : EF) (γ : Gam) : List D → Sto → Res (List D)
  | [], st => .ok [] st
  | d :: ds, st => match t.put d γ with
    | none => .bad
    | some γ1 => (c γ1 st).nox.bind fun b st1 => if b then (f γ1 st1).nox.bind fun e st2 => (compL t c f γ ds st2).bind fun es st3 => .ok (e :: es) st3 else compL t c f γ ds st1
@[simp] def kComp (vs : List Nat) (t : Tg) (c : TF) (f : EF) (γ : Gam) (ds : List D) (st : Sto) : Res D := if ds.length < 16777216 then (compL t c f (wipeG γ vs) ds st).bind fun es st2 => .ok (.lst es) st2 else .bad
@[simp] def eComp (vs : List Nat) (t : Tg) (fi : IF) (c : TF) (f : EF) : EF := fun γ st => (fi γ st).bind (kComp vs t c f γ)
@[simp] def tTrue : TF := fun _ st => .ok true st
theorem ft_nil {X : Cx} {g : Gx} {W : WX} : PTs X [] (tFT g W tTrue) := ⟨fun pins s σ H Q I h => pts_nil.run pins s σ H Q I (by
  obtain ⟨γ, S, ρ, F, st, he, hc, hr⟩ := h
  exact hr.ok_ hc rfl)⟩
theorem ft_one {X : Cx} {g : Gx} {W : WX} {c : Expr} {t : TF} (h : PT X c (tFT g W t)) : PTs X [c] (tFT g W t) := pts_one h
theorem RG.exc_off {V' α : Type} {g : Gx} {E : XK} {F S : Hp} {ρ : List Addr} {R : Hp → List Addr → V' → α → Prop} {Q : V' → Hp → Prop} {r : Res α} (h : RG g E F R S ρ Q r) (k : ∀ c d H, E c d H → False) : RG g E0 F R S ρ Q r := by
  cases r with
  | ok d st => exact h
  | ex c fs st => exact fun cls dd S' ρ' H' le cc x => k _ _ _ (h cls dd S' ρ' H' le cc x)
  | bad => exact h
/-- what is not looked at changes: another frame part -/
theorem Cfg.frame {g : Gx} {S F H : Hp} {ρ : List Addr} {st : Sto} (c : Cfg g S ρ F st H) {D' : Addr} {o : HO} (hD : H D' = some o) (hS : S D' = none) (hl : ∀ (n : Nat) (x : Cell), st[n]? = some (some x) → ρ[n]? ≠ some D') (hT : ∀ p ∈ g.T, p.1 ≠ D') : Cfg g S ρ (upd F D' o) st H := by
  refine ⟨c.sub, fun a u h => ?_, fun a u h => ?_, c.tab, fun p hp => ⟨(c.noT p hp).1, by rw [upd_ne (hT p hp)]; exact (c.noT p hp).2⟩, c.len, fun n x h => ?_, c.inj⟩
  · by_cases e : a = D'
    · subst e; rw [upd_same] at h; cases h; exact hD
    · rw [upd_ne e] at h; exact c.fra a u h
  · by_cases e : a = D'
    · subst e; exact hS
    · rw [upd_ne e] at h; exact c.dis a u h
  · obtain ⟨a, h1, h2, h3, h4⟩ := c.liv n x h
    refine ⟨a, h1, h2, ?_, h4⟩
    rw [upd_ne (fun z => hl n x h (by rw [h1, z]))]; exact h3
/-- the frame part's list is written -/
theorem Cfg.frameW {g : Gx} {S F H : Hp} {ρ : List Addr} {st : Sto} {D' : Addr} {xs ys : List V} (hF : F D' = none) (c : Cfg g S ρ (upd F D' (.lst xs)) st H) : Cfg g S ρ (upd F D' (.lst ys)) st (upd H D' (.lst ys)) := by
  have hD : upd F D' (.lst xs) D' = some (.lst xs) := upd_same
  have hS : S D' = none := c.dis D' _ hD
  have hH := c.fra D' _ hD
  have nS : ∀ b u, S b = some u → b ≠ D' := fun b u q z => by rw [z, hS] at q; cases q
  refine ⟨fun b u q => by rw [upd_ne (nS b u q)]; exact c.sub b u q, fun b u q => ?_, fun b u q => ?_, fun p hp => ?_, fun p hp => ?_, c.len, fun n x h => ?_, c.inj⟩
  · by_cases e : b = D'
    · subst e; rw [upd_same] at q ⊢; exact q
    · rw [upd_ne e] at q ⊢; exact c.fra b u (by rw [upd_ne e]; exact q)
  · by_cases e : b = D'
    · subst e; exact hS
    · rw [upd_ne e] at q; exact c.dis b u (by rw [upd_ne e]; exact q)
  · obtain ⟨ps, e1, e2, e3⟩ := c.tab p hp
    have ne : p.1 ≠ D' := fun z => by rw [z, hH] at e1; cases e1
    refine ⟨ps, by rw [upd_ne ne]; exact e1, e2, fun pos cv hc => ?_⟩
    obtain ⟨k, e4, e5⟩ := e3 pos cv hc
    have nk : k ≠ D' := fun z => by rw [z, hH] at e5; unfold CodeO at e5; cases e5
    exact ⟨k, e4, by rw [upd_ne nk]; exact e5⟩
  · have ne : p.1 ≠ D' := fun z => by
      have := (c.noT p hp).2
      rw [z, hD] at this; cases this
    have h2 := (c.noT p hp).2
    rw [upd_ne ne] at h2
    exact ⟨(c.noT p hp).1, by rw [upd_ne ne]; exact h2⟩
  · obtain ⟨a, h1, h2, h3, h4⟩ := c.liv n x h
    have ne : a ≠ D' := fun z => by rw [z, hD] at h3; cases h3
    rw [upd_ne ne] at h3
    exact ⟨a, h1, h2, by rw [upd_ne ne]; exact h3, h4.mono (Le.refl _ _) fun o e => by rw [upd_ne ne]; exact e⟩
/-- the frame part's list is taken over, immutable -/
theorem Cfg.frameT {g : Gx} {S F H : Hp} {ρ : List Addr} {st : Sto} {D' : Addr} {xs : List V} (hF : F D' = none) (c : Cfg g S ρ (upd F D' (.lst xs)) st H) : Cfg g (upd S D' (.lst xs)) ρ F st H ∧ Le S (upd S D' (.lst xs)) ρ ρ := by
  have hD : upd F D' (.lst xs) D' = some (.lst xs) := upd_same
  have hS : S D' = none := c.dis D' _ hD
  have hH := c.fra D' _ hD
  have le : Le S (upd S D' (.lst xs)) ρ ρ := ⟨fun b u q => by rw [upd_ne (ne_of_none q hS)]; exact q, fun _ _ h => h⟩
  refine ⟨⟨fun b u q => ?_, fun b u q => ?_, fun b u q => ?_, c.tab, fun p hp => ?_, c.len, fun n x h => ?_, c.inj⟩, le⟩
  · by_cases e : b = D'
    · subst e; rw [upd_same] at q; cases q; exact hH
    · rw [upd_ne e] at q; exact c.sub b u q
  · have ne : b ≠ D' := fun z => by rw [z, hF] at q; cases q
    exact c.fra b u (by rw [upd_ne ne]; exact q)
  · have ne : b ≠ D' := fun z => by rw [z, hF] at q; cases q
    rw [upd_ne ne]
    exact c.dis b u (by rw [upd_ne ne]; exact q)
  · have ne : p.1 ≠ D' := fun z => by
      have := (c.noT p hp).2
      rw [z, hD] at this; cases this
    have h2 := (c.noT p hp).2
    rw [upd_ne ne] at h2
    exact ⟨by rw [upd_ne ne]; exact (c.noT p hp).1, h2⟩
  · obtain ⟨a, h1, h2, h3, h4⟩ := c.liv n x h
    have ne : a ≠ D' := fun z => by rw [z, hD] at h3; cases h3
    rw [upd_ne ne] at h3
    exact ⟨a, h1, by rw [upd_ne ne]; exact h2, h3, h4.mono le fun o e => e⟩
abbrev W0 : WX := fun _ _ _ _ => False
section
variable {X : Cx} {g : Gx} {W : WX} {pos : Pos} {elt tg iter : Expr} {ifs : List Expr} {scope : Scope} {fi : IF} {fc : TF} {fe : EF} {t : Tg}
theorem comp_ok {vs : List Nat} (hv : ∀ i ∈ t.slots, i ∈ vs) {σ : L2.St} {H : Hp} {Q : VK} (h : tF g W (eComp vs t fi fc fe) σ H Q) : tLc (tI g W fi) (tTG g t) (tFT g W0 fc) (tF g W0 fe) vs σ H Q := by
  obtain ⟨γ, S, ρ, F, st, he, hc, hr⟩ := h
  refine ⟨γ, S, ρ, F, st, he, hc, (RG.bind_ (R := fun S ρ J ds => Walks g S ρ J ds) (k := kComp vs t fc fe γ) hr).imp ?_⟩
  rintro J H1 ⟨S1, ρ1, st1, ds, le1, c1, wk, h1⟩ D' hD
  dsimp only [kComp] at h1
  split at h1
  · rename_i hlen
    obtain ⟨hS1, hF⟩ := c1.fresh hD
    have he1 := (he.mono le1).wipes vs
    have cD : Cfg g S1 ρ1 (upd F D' (.lst [])) st1 (upd H1 D' (.lst [])) := by
      have c2 : Cfg g S1 ρ1 F st1 (upd H1 D' (.lst [])) := by
        have kp : ∀ b u, H1 b = some u → upd H1 D' (.lst []) b = some u := fun b u e => by rw [upd_ne (ne_of_none e hD)]; exact e
        exact ⟨fun a u h => kp a u (c1.sub a u h), fun a u h => kp a u (c1.fra a u h), c1.dis, c1.tab.ext kp, c1.noT, c1.len, fun n x h => by
          obtain ⟨a, h1, h2, h3, h4⟩ := c1.liv n x h
          exact ⟨a, h1, h2, h3, h4.mono (Le.refl _ _) (kp a)⟩, c1.inj⟩
      refine c2.frame upd_same hS1 (fun n x h z => ?_) fun p hp z => ?_
      · obtain ⟨a, h1, h2, h3, h4⟩ := c1.liv n x h
        rw [z] at h1; cases h1
        obtain ⟨ys, e⟩ := h4.there
        rw [hD] at e; cases e
      · obtain ⟨ps, e, _⟩ := c1.tab p hp
        rw [z, hD] at e; cases e
    let Pv : Nat → Hp → Prop := fun i H => ∃ S ρ st acc ads, Le S1 S ρ1 ρ ∧ Cfg g S ρ (upd F D' (.lst acc)) st H ∧ DVs g S ρ acc ads ∧ acc.length ≤ i ∧
      RG g (fun cls dd H => W cls dd σ H) F (fun S ρ => DV g S ρ) S ρ Q ((compL t fc fe (wipeG γ vs) (ds.drop i) st).bind fun es st2 => .ok (.lst (ads ++ es)) st2)
    refine ⟨fun i m H => m = ds.length - i ∧ i ≤ ds.length ∧ Pv i H, ⟨ds.length, by simp, Nat.zero_le _, S1, ρ1, st1, [], [], Le.refl _ _, cD, .nil, Nat.zero_le _, h1⟩, ?_⟩
    rintro i m H2 ⟨rfl, hi, S2, ρ2, st2, acc, ads, le2, c2, ra, hla, h2⟩
    by_cases hlt : i < ds.length
    · have hd : ds.drop i = ds[i] :: ds.drop (i + 1) := List.drop_eq_getElem_cons hlt
      rw [hd] at h2
      have hget : ds[i]? = some ds[i] := List.getElem?_eq_getElem hlt
      refine .inr ⟨wk.go i S2 ρ2 _ st2 H2 hlt le2 c2, Pv (i + 1), fun H' q => ⟨ds.length - (i + 1), by omega, rfl, hlt, q⟩, fun x H' y => ?_⟩
      obtain ⟨S3, le3, c3, r3⟩ := wk.yld i _ S2 ρ2 _ st2 H2 x H' hget le2 c2 y
      simp only [compL] at h2
      cases q : t.put ds[i] (wipeG γ vs) with
      | none => rw [q] at h2; exact h2.elim
      | some γ3 =>
        rw [q] at h2
        refine ⟨_, _, γ3, S3, ρ2, _, st2, he1.mono (le2.trans le3), c3, r3, q, fun σ' he' ho => ⟨wipe_out ho hv, ?_⟩⟩
        have h3 := RG.mono h2 le3
        simp only at h3
        cases qc : fc γ3 st2 with
        | bad => rw [qc] at h3; exact h3.elim
        | ex c fs st4 => rw [qc] at h3; exact h3.elim
        | ok b st4 =>
          rw [qc] at h3
          refine ⟨γ3, S3, ρ2, _, st2, he', c3, ?_⟩
          rw [qc]
          rintro b' S4 ρ4 H4 le4 c4 rb
          have zb : b' = b := rb
          subst zb
          cases b' with
          | false =>
            exact ⟨S4, ρ4, st4, acc, ads, le2.trans (le3.trans le4), c4, ra.mono (le3.trans le4), by omega, RG.mono h3 le4⟩
          | true =>
            simp only [Res.nox, Res.bind, if_true] at h3
            cases qe : fe γ3 st4 with
            | bad => rw [qe] at h3; exact h3.elim
            | ex c fs st5 => rw [qe] at h3; exact h3.elim
            | ok e st5 =>
              rw [qe] at h3
              refine ⟨γ3, S4, ρ4, _, st4, he'.mono le4, c4, ?_⟩
              rw [qe]
              rintro v S5 ρ5 H5 le5 c5 rv
              have hH5 : H5 D' = some (.lst acc) := c5.fra D' _ upd_same
              refine ⟨acc, hH5, by rw [sizeLine_eq]; omega, S5, ρ5, st5, acc ++ [v], ads ++ [e], le2.trans (le3.trans (le4.trans le5)), c5.frameW hF, (ra.mono (le3.trans (le4.trans le5))).append (.cons rv .nil), by simp; omega, ?_⟩
              have h4 := RG.mono h3 (le4.trans le5)
              simp only [Res.bind] at h4
              cases ql : compL t fc fe (wipeG γ vs) (ds.drop (i + 1)) st5 with
              | bad => rw [ql] at h4; exact h4.elim
              | ex c fs st6 => rw [ql] at h4; exact h4
              | ok es st6 =>
                rw [ql] at h4
                simp only [Res.bind, List.append_assoc, List.singleton_append] at h4 ⊢
                exact h4
    · have e : i = ds.length := by omega
      subst e
      rw [List.drop_length] at h2
      refine .inl ⟨wk.stop S2 ρ2 _ st2 H2 le2 c2, ?_⟩
      obtain ⟨c3, le3⟩ := c2.frameT hF
      simp only [compL, Res.bind, List.append_nil] at h2
      exact h2 _ _ _ _ le3 c3 (.lst upd_same (ra.mono le3))
  · exact h1.elim
end
end FL
end
section
set_option Elab.async false
set_option linter.all false
set_option maxRecDepth 100000
set_option maxHeartbeats 2000000
namespace FL
open PySem PySem.Spec PyProof.Rows L2 LamX

/-! ## operators on data -/
def D.shp (d : D) : Bool := d.isPy && SeqAt.shaped d.py
def opAdd : Op2 := fun _ d e => match d, e with
  | .int i, .int j => some (.int (i + j))
  | .str x, .str y => if x.length + y.length ≤ 16777216 then some (.str (x ++ y)) else none
  | .lst xs, .lst ys => if xs.length + ys.length ≤ 16777216 then some (.lst (xs ++ ys)) else none
  | .tup xs, .tup ys => if xs.isEmpty then none else if ys.isEmpty then some (.tup xs) else if xs.length + ys.length ≤ 16777216 then some (.tup (xs ++ ys)) else none
  | _, _ => none
def opSub : Op2 := fun _ d e => match d, e with
  | .int i, .int j => some (.int (i - j))
  | _, _ => none
def repS (z : Str) (n : Nat) : Str := ⟨⟨(List.replicate n z.cps.toList).flatten⟩⟩
def opMul : Op2 := fun _ d e => match d, e with
  | .int i, .int j => if i.natAbs.log2 + j.natAbs.log2 < 134000000 then some (.int (i * j)) else none
  | .lst xs, .int k => if 0 ≤ k ∧ k ≤ 1000000 ∧ xs.length * k.toNat ≤ 16777216 then some (.lst (List.replicate k.toNat xs).flatten) else none
  | .str z, .int k => if 1 ≤ k ∧ k ≤ 1000000 ∧ z.length * k.toNat ≤ 16777216 then some (.str (repS z k.toNat)) else none
  | _, _ => none
def opDiv : Op2 := fun _ d e => match d, e with
  | .int i, .int j => if 0 < j ∧ j.natAbs.log2 < 9000 then some (.int (i / j)) else none
  | _, _ => none
def opMod : Op2 := fun _ d e => match d, e with
  | .int i, .int j => if 0 < j then some (.int (i % j)) else if j < 0 then some (.int (i.fmod j)) else none
  | _, _ => none
def opPow : Op2 := fun _ d e => match d, e with
  | .int i, .int j => if 0 ≤ j ∧ j ≤ 1000000 ∧ i.natAbs < 18446744073709551616 then some (.int (i ^ j.toNat)) else none
  | _, _ => none
def opEq : Op2 := fun _ d e => if d.shp && e.shp then some (.bl (PyData.eqv d.py e.py)) else none
def opNe : Op2 := fun _ d e => if d.shp && e.shp then some (.bl (!PyData.eqv d.py e.py)) else none
def opLt : Op2 := fun _ d e => match d, e with
  | .int i, .int j => some (.bl (decide (i < j)))
  | _, _ => none
def opLe : Op2 := fun _ d e => match d, e with
  | .int i, .int j => some (.bl (decide (i ≤ j)))
  | _, _ => none
def opGt : Op2 := fun _ d e => match d, e with
  | .int i, .int j => some (.bl (decide (j < i)))
  | _, _ => none
def opGe : Op2 := fun _ d e => match d, e with
  | .int i, .int j => some (.bl (decide (j ≤ i)))
  | _, _ => none
def D.isNon : D → Bool
  | .non => true
  | _ => false
def opIsN : Op2 := fun _ d e => match e with
  | .non => some (.bl d.isNon)
  | _ => none
def opNotN : Op2 := fun _ d e => match e with
  | .non => some (.bl (!d.isNon))
  | _ => none
def opIsB : Op2 := fun _ d e => match d, e with
  | .bl a, .bl b => some (.bl (decide (a = b)))
  | _, _ => none
def opNotB : Op2 := fun _ d e => match d, e with
  | .bl a, .bl b => some (.bl (!decide (a = b)))
  | _, _ => none
/-- the item at an index -/
def opIx : Op2 := fun st d e => match d, e with
  | .tup xs, .int i => atI xs i
  | .lst xs, .int i => atI xs i
  | .ro xs, .int i => atI xs i
  | .cell n, .int i => match st[n]? with
    | some (some (.lst xs)) => atI xs i
    | _ => none
  | .str z, .int i => if z.length ≤ 16777216 then (atI z.cps.toList i).map fun c => .str ⟨#[c]⟩ else none
  | _, _ => none
/-- x in a list of data; a sign in a text -/
def opIn : Op2 := fun _ d e => match e with
  | .lst xs => if d.shp && (D.lst xs).shp then some (.bl (xs.any fun z => PyData.eqv z.py d.py)) else none
  | .str z => match d with
    | .str ⟨⟨[c]⟩⟩ => some (.bl (decide (c ∈ z.cps.toList)))
    | _ => none
  | _ => none
def opNotIn : Op2 := fun _ d e => match e with
  | .lst xs => if d.shp && (D.lst xs).shp then some (.bl (!xs.any fun z => PyData.eqv z.py d.py)) else none
  | .str z => match d with
    | .str ⟨⟨[c]⟩⟩ => some (.bl (!decide (c ∈ z.cps.toList)))
    | _ => none
  | _ => none
def opNeg : Op1 := fun _ d => match d with
  | .int i => some (.int (-i))
  | _ => none
section
variable {X : Cx} {g : Gx}
theorem pys_map : ∀ ds : List D, D.pys ds = ds.map D.py
  | [] => rfl
  | d :: ds => by rw [D.pys, pys_map ds]; rfl
theorem pow64 : (2 : Nat) ^ 64 = 18446744073709551616 := by decide
theorem DV.int_ {g : Gx} {S : Hp} {ρ : List Addr} {v : V} {i : Int} (h : DV g S ρ v (.int i)) : v = .int i := by cases h; rfl
theorem DV.str_ {g : Gx} {S : Hp} {ρ : List Addr} {v : V} {i : Str} (h : DV g S ρ v (.str i)) : v = .str i := by cases h; rfl
theorem DV.bl_ {g : Gx} {S : Hp} {ρ : List Addr} {v : V} {i : Bool} (h : DV g S ρ v (.bl i)) : v = .bl i := by cases h; rfl
theorem DV.non_ {g : Gx} {S : Hp} {ρ : List Addr} {v : V} (h : DV g S ρ v .non) : v = .non := by cases h; rfl
theorem DV.tup_ {g : Gx} {S : Hp} {ρ : List Addr} {v : V} {ds : List D} (h : DV g S ρ v (.tup ds)) : ∃ a xs, v = .ref a ∧ SqT g.K S a xs ∧ DVs g S ρ xs ds := by cases h with | tup a b => exact ⟨_, _, rfl, a, b⟩
theorem DV.lst_ {g : Gx} {S : Hp} {ρ : List Addr} {v : V} {ds : List D} (h : DV g S ρ v (.lst ds)) : ∃ a xs, v = .ref a ∧ S a = some (.lst xs) ∧ DVs g S ρ xs ds := by cases h with | lst a b => exact ⟨_, _, rfl, a, b⟩
theorem DV.ro_ {g : Gx} {S : Hp} {ρ : List Addr} {v : V} {ds : List D} (h : DV g S ρ v (.ro ds)) : ∃ a xs, v = .ref a ∧ SqL g.K S a xs ∧ DVs g S ρ xs ds := by cases h with | ro a b => exact ⟨_, _, rfl, a, b⟩
theorem DVs.flat_rep {g : Gx} {S : Hp} {ρ : List Addr} {vs : List V} {ds : List D} (h : DVs g S ρ vs ds) : ∀ n : Nat, DVs g S ρ (List.replicate n vs).flatten (List.replicate n ds).flatten
  | 0 => .nil
  | n + 1 => by
    simp only [List.replicate_succ, List.flatten_cons]
    exact h.append (DVs.flat_rep h n)

theorem okAdd (hK : Gok X g) : OpR X (binaryOp .Add) (rD g opAdd) := by
  rintro pins s σ H x y v u Q I rx ry ⟨d, e, r, S, ρ, F, st, c, dx, dy, ho, q⟩
  unfold opAdd at ho
  split at ho
  · cases ho
    obtain rfl := dx.int_
    obtain rfl := dy.int_
    exact op_add pins s σ H _ _ v u Q I rx ry ⟨_, _, rfl, rfl, q _ S ρ H (Le.refl _ _) c (.int _)⟩
  · split at ho
    · rename_i hz
      cases ho
      obtain rfl := dx.str_
      obtain rfl := dy.str_
      exact op_add_str pins s σ H _ _ v u Q I rx ry ⟨_, _, rfl, rfl, by rw [sizeLine_eq]; exact hz, q _ S ρ H (Le.refl _ _) c (.str _)⟩
    · cases ho
  · split at ho
    · rename_i hz
      cases ho
      obtain ⟨a, xs, rfl, h1, r1⟩ := dx.lst_
      obtain ⟨b, ys, rfl, h2, r2⟩ := dy.lst_
      refine op_cat pins s σ H _ _ v u Q I rx ry ⟨a, b, xs, ys, rfl, rfl, c.sub _ _ h1, c.sub _ _ h2, by rw [r1.length, r2.length, sizeLine_eq]; exact hz, fun p hp => ?_⟩
      obtain ⟨c2, le⟩ := c.laid (o := .lst (xs ++ ys)) hp
      exact q _ _ _ _ le c2 (.lst upd_same ((r1.append r2).mono le))
    · cases ho
  · split at ho
    · cases ho
    · rename_i hx
      obtain ⟨a, xs, rfl, h1, r1⟩ := dx.tup_
      obtain ⟨b, ys, rfl, h2, r2⟩ := dy.tup_
      have hne : xs ≠ [] := fun z => by
        subst z
        cases r1
        simp at hx
      split at ho
      · rename_i hy
        cases ho
        have hys : ys = [] := by
          cases r2 with
          | nil => rfl
          | cons _ _ => simp at hy
        subst hys
        refine op_catT pins s σ H _ _ v u Q I rx ry ⟨a, b, xs, [], rfl, rfl, by rw [← hK.K]; exact c.sqT h1, by rw [← hK.K]; exact c.sqT h2, hne, ?_, fun _ => q _ S ρ H (Le.refl _ _) c (.tup h1 r1), fun z => absurd rfl z⟩
        have := (I.tuple (by rw [← hK.K]; exact c.sqT h1)).choose_spec.2.2
        simpa using this
      · rename_i hy
        split at ho
        · rename_i hz
          cases ho
          have hys : ys ≠ [] := fun z => by
            subst z
            cases r2
            simp at hy
          refine op_catT pins s σ H _ _ v u Q I rx ry ⟨a, b, xs, ys, rfl, rfl, by rw [← hK.K]; exact c.sqT h1, by rw [← hK.K]; exact c.sqT h2, hne, by rw [r1.length, r2.length, sizeLine_eq]; exact hz, fun z => absurd z hys, fun _ p hp => ?_⟩
          obtain ⟨c2, le⟩ := c.laid (o := .tup (xs ++ ys)) hp
          exact q _ _ _ _ le c2 (.tup (.inl (.inl upd_same)) ((r1.append r2).mono le))
        · cases ho
  · cases ho
theorem okSub : OpR X (binaryOp .Sub) (rD g opSub) := by
  rintro pins s σ H x y v u Q I rx ry ⟨d, e, r, S, ρ, F, st, c, dx, dy, ho, q⟩
  unfold opSub at ho
  split at ho
  · cases ho
    obtain rfl := dx.int_
    obtain rfl := dy.int_
    exact op_sub pins s σ H _ _ v u Q I rx ry ⟨_, _, rfl, rfl, q _ S ρ H (Le.refl _ _) c (.int _)⟩
  · cases ho
theorem rep_fold (a : Array Nat) : ∀ (n : Nat) (acc : Array Nat), ((List.replicate n a).foldl (· ++ ·) acc).toList = acc.toList ++ (List.replicate n a.toList).flatten
  | 0, acc => by simp
  | n + 1, acc => by
    rw [List.replicate_succ, List.foldl_cons, rep_fold a n, List.replicate_succ, List.flatten_cons, Array.toList_append, List.append_assoc]
theorem repS_eq (z : Str) (n : Nat) : (⟨(List.replicate n z.cps).foldl (· ++ ·) #[]⟩ : Str) = repS z n := by
  have h := rep_fold z.cps n #[]
  unfold repS
  congr 1
  apply Array.toList_inj.mp
  rw [h]
  simp
theorem wideMul {i j : Int} (h : i.natAbs.log2 + j.natAbs.log2 < 134000000) : IntMulOk i j := by
  have b : ∀ x : Int, Builtin.Int.intBits x ≤ x.natAbs.log2 + 1 := fun x => by
    unfold Builtin.Int.intBits
    split <;> omega
  have h1 := b i
  have h2 := b j
  have e : bitsLine = 134217728 := by decide
  unfold IntMulOk
  intro z
  rw [Bool.and_eq_true] at z
  have z2 := z.2
  unfold Builtin.Int.intTooBig at z2
  have z3 := of_decide_eq_true z2
  rw [e] at z3
  omega
theorem op_mulG : OpR X (binaryOp .Mult) (rI (fun i j => i.natAbs.log2 + j.natAbs.log2 < 134000000) fun i j => .int (i * j)) := opI fun _ _ _ _ _ _ _ hc q => mul_int q (wideMul hc)
theorem op_mulS : OpR X (binaryOp .Mult) (fun x y H Q => ∃ (z : Str) (k : Int), x = .str z ∧ y = .int k ∧ 1 ≤ k ∧ k ≤ 1000000 ∧ z.length * k.toNat ≤ 16777216 ∧ Q (.str (repS z k.toNat)) H) := by
  rintro pins s σ H x y v u Q I rx ry ⟨z, k, rfl, rfl, h1, h2, h3, q⟩
  obtain ⟨t, rfl⟩ := rx
  obtain ⟨t', rfl⟩ := ry
  have hl : z.length ≤ 16777216 := Nat.le_trans (Nat.le_mul_of_pos_right _ (by omega)) h3
  refine P.mul_str ?_ (fun _ _ => ?_) (fun _ _ => ?_) ?_
  · have a1 : ¬ k < -(2 ^ 63 : Int) := by omega
    have a2 : ¬ k ≥ 2 ^ 63 := by omega
    rw [decide_eq_false a1, decide_eq_false a2]; rfl
  · intro hgt
    have a3 : (16777216 : Int) ≤ (2 ^ 63 - 1) / k := by
      apply Int.le_ediv_of_mul_le (by omega)
      omega
    omega
  · unfold Builtin.Str.tooLong
    rw [sizeLine_eq]
    exact decide_eq_false (by omega)
  · rw [if_neg (by omega)]
    split
    · rename_i hc
      have e : repS z k.toNat = z := by
        rw [Bool.or_eq_true] at hc
        unfold repS
        rcases hc with hc | hc
        · have ek : k = 1 := by simpa using hc
          subst ek
          simp
        · have ez : z.cps.size = 0 := by
            have hc' : z.length = 0 := by simpa using hc
            exact hc'
          have el : z.cps = #[] := Array.eq_empty_of_size_eq_zero ez
          obtain ⟨c⟩ := z
          dsimp only at el
          subst el
          simp
      rw [e] at q
      exact ⟨.str z, H, I, ⟨_, rfl⟩, q⟩
    · rw [repS_eq]
      refine ⟨?_, ⟨.str _, H, I.tok _, ⟨_, rfl⟩, q⟩⟩
      have e : (repS z k.toNat).length = z.length * k.toNat := by
        unfold repS PySem.Str.length
        simp [Nat.mul_comm]
      rw [e, sizeLine_eq]
      exact h3
theorem okMul : OpR X (binaryOp .Mult) (rD g opMul) := by
  rintro pins s σ H x y v u Q I rx ry ⟨d, e, r, S, ρ, F, st, c, dx, dy, ho, q⟩
  unfold opMul at ho
  split at ho
  · split at ho
    · rename_i hz
      cases ho
      obtain rfl := dx.int_
      obtain rfl := dy.int_
      exact op_mulG pins s σ H _ _ v u Q I rx ry ⟨_, _, rfl, rfl, hz, q _ S ρ H (Le.refl _ _) c (.int _)⟩
    · cases ho
  · split at ho
    · rename_i hz
      cases ho
      obtain ⟨a, xs, rfl, h1, r1⟩ := dx.lst_
      obtain rfl := dy.int_
      refine op_rep pins s σ H _ _ v u Q I rx ry ⟨a, _, xs, rfl, rfl, c.sub _ _ h1, by omega, by omega, by rw [r1.length, sizeLine_eq]; exact hz.2.2, fun p hp => ?_⟩
      obtain ⟨c2, le⟩ := c.laid (o := .lst (List.replicate _ xs).flatten) hp
      exact q _ _ _ _ le c2 (.lst upd_same ((r1.flat_rep _).mono le))
    · cases ho
  · split at ho
    · rename_i hz
      cases ho
      obtain rfl := dx.str_
      obtain rfl := dy.int_
      exact op_mulS pins s σ H _ _ v u Q I rx ry ⟨_, _, rfl, rfl, hz.1, hz.2.1, hz.2.2, q _ S ρ H (Le.refl _ _) c (.str _)⟩
    · cases ho
  · cases ho
theorem okDiv : OpR X (binaryOp .FloorDiv) (rD g opDiv) := by
  rintro pins s σ H x y v u Q I rx ry ⟨d, e, r, S, ρ, F, st, c, dx, dy, ho, q⟩
  unfold opDiv at ho
  split at ho
  · split at ho
    · rename_i hz
      cases ho
      obtain rfl := dx.int_
      obtain rfl := dy.int_
      exact op_fdivW pins s σ H _ _ v u Q I rx ry ⟨_, _, rfl, rfl, hz, q _ S ρ H (Le.refl _ _) c (.int _)⟩
    · cases ho
  · cases ho
theorem okMod : OpR X (binaryOp .Mod) (rD g opMod) := by
  rintro pins s σ H x y v u Q I rx ry ⟨d, e, r, S, ρ, F, st, c, dx, dy, ho, q⟩
  unfold opMod at ho
  split at ho
  · obtain rfl := dx.int_
    obtain rfl := dy.int_
    split at ho
    · rename_i hz
      cases ho
      exact op_mod pins s σ H _ _ v u Q I rx ry ⟨_, _, rfl, rfl, hz, q _ S ρ H (Le.refl _ _) c (.int _)⟩
    · split at ho
      · rename_i hz
        cases ho
        exact op_modN pins s σ H _ _ v u Q I rx ry ⟨_, _, rfl, rfl, by omega, q _ S ρ H (Le.refl _ _) c (.int _)⟩
      · cases ho
  · cases ho
theorem okPow : OpR X (binaryOp .Pow) (rD g opPow) := by
  rintro pins s σ H x y v u Q I rx ry ⟨d, e, r, S, ρ, F, st, c, dx, dy, ho, q⟩
  unfold opPow at ho
  split at ho
  · split at ho
    · rename_i hz
      cases ho
      obtain rfl := dx.int_
      obtain rfl := dy.int_
      exact op_pow pins s σ H _ _ v u Q I rx ry ⟨_, _, rfl, rfl, ⟨hz.1, hz.2.1, by rw [pow64]; exact hz.2.2⟩, q _ S ρ H (Le.refl _ _) c (.int _)⟩
    · cases ho
  · cases ho
theorem shp_dp {d : D} {S H : Hp} {ρ : List Addr} {v : V} (sub : ∀ a o, S a = some o → H a = some o) (h : d.shp = true) (r : DV g S ρ v d) : Dp g.K H v d.py ∧ SeqAt.shaped d.py = true := by
  unfold D.shp at h
  rw [Bool.and_eq_true] at h
  exact ⟨DV.dp sub d r h.1, h.2⟩
theorem okEq (hK : Gok X g) (hu : X.A.units + 64 < cLine) : OpR X (compareOp .Eq) (rD g opEq) := by
  rintro pins s σ H x y v u Q I rx ry ⟨d, e, r, S, ρ, F, st, c, dx, dy, ho, q⟩
  unfold opEq at ho
  split at ho
  · rename_i hz
    cases ho
    rw [Bool.and_eq_true] at hz
    obtain ⟨h1, h2⟩ := shp_dp c.sub hz.1 dx
    obtain ⟨h3, h4⟩ := shp_dp c.sub hz.2 dy
    exact op_eqD hu pins s σ H _ _ v u Q I rx ry ⟨_, _, by rw [← hK.K]; exact h1, by rw [← hK.K]; exact h3, h2, h4, q _ S ρ H (Le.refl _ _) c (.bl _)⟩
  · cases ho
theorem okNe (hK : Gok X g) (hu : X.A.units + 64 < cLine) : OpR X (compareOp .NotEq) (rD g opNe) := by
  rintro pins s σ H x y v u Q I rx ry ⟨d, e, r, S, ρ, F, st, c, dx, dy, ho, q⟩
  unfold opNe at ho
  split at ho
  · rename_i hz
    cases ho
    rw [Bool.and_eq_true] at hz
    obtain ⟨h1, h2⟩ := shp_dp c.sub hz.1 dx
    obtain ⟨h3, h4⟩ := shp_dp c.sub hz.2 dy
    exact op_neD hu pins s σ H _ _ v u Q I rx ry ⟨_, _, by rw [← hK.K]; exact h1, by rw [← hK.K]; exact h3, h2, h4, q _ S ρ H (Le.refl _ _) c (.bl _)⟩
  · cases ho
theorem okI {o : Value → Value → Sem Value} {f : Int → Int → Bool} {op : Op2} (hr : OpR X o (rI0 fun i j => .bl (f i j))) (ho : ∀ st d e r, op st d e = some r → ∃ i j, d = .int i ∧ e = .int j ∧ r = .bl (f i j)) : OpR X o (rD g op) := by
  rintro pins s σ H x y v u Q I rx ry ⟨d, e, r, S, ρ, F, st, c, dx, dy, h, q⟩
  obtain ⟨i, j, rfl, rfl, rfl⟩ := ho st d e r h
  obtain rfl := dx.int_
  obtain rfl := dy.int_
  exact hr pins s σ H _ _ v u Q I rx ry ⟨_, _, rfl, rfl, q _ S ρ H (Le.refl _ _) c (.bl _)⟩
theorem okLt : OpR X (compareOp .Lt) (rD g opLt) := okI op_lt fun st d e r h => by unfold opLt at h; split at h <;> cases h; exact ⟨_, _, rfl, rfl, rfl⟩
theorem okLe : OpR X (compareOp .LtE) (rD g opLe) := okI op_le fun st d e r h => by unfold opLe at h; split at h <;> cases h; exact ⟨_, _, rfl, rfl, rfl⟩
theorem okGt : OpR X (compareOp .Gt) (rD g opGt) := okI op_gt fun st d e r h => by unfold opGt at h; split at h <;> cases h; exact ⟨_, _, rfl, rfl, rfl⟩
theorem okGe : OpR X (compareOp .GtE) (rD g opGe) := okI op_ge fun st d e r h => by unfold opGe at h; split at h <;> cases h; exact ⟨_, _, rfl, rfl, rfl⟩
theorem isNon_ok {g : Gx} {S : Hp} {ρ : List Addr} {v : V} {d : D} (r : DV g S ρ v d) : decide (v = .non) = d.isNon := by
  cases r <;> rfl
theorem okIsN : OpR X (compareOp .Is) (rD g opIsN) := by
  rintro pins s σ H x y v u Q I rx ry ⟨d, e, r, S, ρ, F, st, c, dx, dy, ho, q⟩
  unfold opIsN at ho
  split at ho
  · cases ho
    obtain rfl := dy.non_
    exact op_isN pins s σ H _ _ v u Q I rx ry ⟨rfl, by rw [isNon_ok dx]; exact q _ S ρ H (Le.refl _ _) c (.bl _)⟩
  · cases ho
theorem okNotN : OpR X (compareOp .IsNot) (rD g opNotN) := by
  rintro pins s σ H x y v u Q I rx ry ⟨d, e, r, S, ρ, F, st, c, dx, dy, ho, q⟩
  unfold opNotN at ho
  split at ho
  · cases ho
    obtain rfl := dy.non_
    exact op_notN pins s σ H _ _ v u Q I rx ry ⟨rfl, by rw [isNon_ok dx]; exact q _ S ρ H (Le.refl _ _) c (.bl _)⟩
  · cases ho
theorem okIsB : OpR X (compareOp .Is) (rD g opIsB) := by
  rintro pins s σ H x y v u Q I rx ry ⟨d, e, r, S, ρ, F, st, c, dx, dy, ho, q⟩
  unfold opIsB at ho
  split at ho
  · cases ho
    obtain rfl := dx.bl_
    obtain rfl := dy.bl_
    exact op_isBl pins s σ H _ _ v u Q I rx ry ⟨_, _, rfl, rfl, q _ S ρ H (Le.refl _ _) c (.bl _)⟩
  · cases ho
theorem okNotB : OpR X (compareOp .IsNot) (rD g opNotB) := by
  rintro pins s σ H x y v u Q I rx ry ⟨d, e, r, S, ρ, F, st, c, dx, dy, ho, q⟩
  unfold opNotB at ho
  split at ho
  · cases ho
    obtain rfl := dx.bl_
    obtain rfl := dy.bl_
    exact op_notBl pins s σ H _ _ v u Q I rx ry ⟨_, _, rfl, rfl, q _ S ρ H (Le.refl _ _) c (.bl _)⟩
  · cases ho
theorem okNeg : UnR X (unaryOp .USub) (rD1 g opNeg) := by
  rintro pins s σ H x v Q I rx ⟨d, r, S, ρ, F, st, c, dx, ho, q⟩
  unfold opNeg at ho
  split at ho
  · cases ho
    obtain rfl := dx.int_
    exact un_neg pins s σ H _ v Q I rx ⟨_, rfl, q _ S ρ H (Le.refl _ _) c (.int _)⟩
  · cases ho
theorem atI_dvs {g : Gx} {S : Hp} {ρ : List Addr} {vs : List V} {ds : List D} {i : Int} {r : D} (h : DVs g S ρ vs ds) (e : atI ds i = some r) : ∃ v, atI vs i = some v ∧ DV g S ρ v r := by
  unfold atI at e ⊢
  rw [h.length]
  cases q : ixN ds.length i with
  | none => rw [q] at e; cases e
  | some j =>
    rw [q] at e
    exact h.get e
theorem okIx (hK : Gok X g) : IxR X (rD g opIx) := by
  rintro value slice pins s σ H x y v u Q I rx ry ⟨d, e, r, S, ρ, F, st, c, dx, dy, ho, q⟩ hs
  unfold opIx at ho
  split at ho
  · obtain ⟨a, xs, rfl, h1, r1⟩ := dx.tup_
    obtain rfl := dy.int_
    obtain ⟨w, hw, rw'⟩ := atI_dvs r1 ho
    exact ix_tup value slice pins s σ H _ _ v u Q I rx ry ⟨a, xs, _, w, rfl, rfl, by rw [← hK.K]; exact c.sqT h1, hw, q _ S ρ H (Le.refl _ _) c rw'⟩ hs
  · obtain ⟨a, xs, rfl, h1, r1⟩ := dx.lst_
    obtain rfl := dy.int_
    obtain ⟨w, hw, rw'⟩ := atI_dvs r1 ho
    exact ix_list value slice pins s σ H _ _ v u Q I rx ry ⟨a, xs, _, w, rfl, rfl, SqL.of (c.sub _ _ h1), hw, q _ S ρ H (Le.refl _ _) c rw'⟩ hs
  · obtain ⟨a, xs, rfl, h1, r1⟩ := dx.ro_
    obtain rfl := dy.int_
    obtain ⟨w, hw, rw'⟩ := atI_dvs r1 ho
    exact ix_list value slice pins s σ H _ _ v u Q I rx ry ⟨a, xs, _, w, rfl, rfl, by rw [← hK.K]; exact c.sqL h1, hw, q _ S ρ H (Le.refl _ _) c rw'⟩ hs
  · split at ho
    · rename_i ds hds
      obtain ⟨a, xs, rfl, _, h1, r1⟩ := c.cell dx hds
      obtain rfl := dy.int_
      obtain ⟨w, hw, rw'⟩ := atI_dvs r1 ho
      exact ix_list value slice pins s σ H _ _ v u Q I rx ry ⟨a, xs, _, w, rfl, rfl, SqL.of h1, hw, q _ S ρ H (Le.refl _ _) c rw'⟩ hs
    · cases ho
  · split at ho
    · rename_i hz
      obtain rfl := dx.str_
      obtain rfl := dy.int_
      cases hc : atI _ _ with
      | none => rw [hc] at ho; cases ho
      | some k =>
        rw [hc] at ho
        cases ho
        exact ix_str value slice pins s σ H _ _ v u Q I rx ry ⟨_, _, k, rfl, rfl, by rw [sizeLine_eq]; exact hz, hc, q _ S ρ H (Le.refl _ _) c (.str _)⟩ hs
    · cases ho
  · cases ho
theorem any_py (d : D) : ∀ xs : List D, ((D.pys xs).any fun z => PyData.eqv z d.py) = xs.any fun z => PyData.eqv z.py d.py
  | [] => rfl
  | x :: xs => by rw [D.pys, List.any_cons, List.any_cons, any_py d xs]
theorem okIn (hK : Gok X g) (hu : X.A.units + 65 < cLine) : OpR X (compareOp .In) (rD g opIn) := by
  rintro pins s σ H x y v u Q I rx ry ⟨d, e, r, S, ρ, F, st, c, dx, dy, ho, q⟩
  unfold opIn at ho
  split at ho
  · split at ho
    · rename_i xs hz
      cases ho
      rw [Bool.and_eq_true] at hz
      obtain ⟨h1, h2⟩ := shp_dp c.sub hz.1 dx
      obtain ⟨h3, h4⟩ := shp_dp c.sub hz.2 dy
      rw [D.py] at h3 h4
      exact op_inD hu pins s σ H _ _ v u Q I rx ry ⟨_, _, by rw [← hK.K]; exact h1, by rw [← hK.K]; exact h3, h2, h4, by rw [any_py]; exact q _ S ρ H (Le.refl _ _) c (.bl _)⟩
    · cases ho
  · split at ho
    · cases ho
      obtain rfl := dx.str_
      obtain rfl := dy.str_
      exact op_in_sign pins s σ H _ _ v u Q I rx ry ⟨_, _, rfl, rfl, q _ S ρ H (Le.refl _ _) c (.bl _)⟩
    · cases ho
  · cases ho
theorem okNotIn (hK : Gok X g) (hu : X.A.units + 65 < cLine) : OpR X (compareOp .NotIn) (rD g opNotIn) := by
  rintro pins s σ H x y v u Q I rx ry ⟨d, e, r, S, ρ, F, st, c, dx, dy, ho, q⟩
  unfold opNotIn at ho
  split at ho
  · split at ho
    · rename_i xs hz
      cases ho
      rw [Bool.and_eq_true] at hz
      obtain ⟨h1, h2⟩ := shp_dp c.sub hz.1 dx
      obtain ⟨h3, h4⟩ := shp_dp c.sub hz.2 dy
      rw [D.py] at h3 h4
      exact op_notInD hu pins s σ H _ _ v u Q I rx ry ⟨_, _, by rw [← hK.K]; exact h1, by rw [← hK.K]; exact h3, h2, h4, by rw [any_py]; exact q _ S ρ H (Le.refl _ _) c (.bl _)⟩
    · cases ho
  · split at ho
    · cases ho
      obtain rfl := dx.str_
      obtain rfl := dy.str_
      exact op_notIn_sign pins s σ H _ _ v u Q I rx ry ⟨_, _, rfl, rfl, q _ S ρ H (Le.refl _ _) c (.bl _)⟩
    · cases ho
  · cases ho
end
/-! which comparisons give a True or False -/
theorem blEq : ∀ st d e r, opEq st d e = some r → ∃ k, r = .bl k := fun st d e r h => by unfold opEq at h; split at h <;> cases h; exact ⟨_, rfl⟩
theorem blNe : ∀ st d e r, opNe st d e = some r → ∃ k, r = .bl k := fun st d e r h => by unfold opNe at h; split at h <;> cases h; exact ⟨_, rfl⟩
theorem blLt : ∀ st d e r, opLt st d e = some r → ∃ k, r = .bl k := fun st d e r h => by unfold opLt at h; split at h <;> cases h; exact ⟨_, rfl⟩
theorem blLe : ∀ st d e r, opLe st d e = some r → ∃ k, r = .bl k := fun st d e r h => by unfold opLe at h; split at h <;> cases h; exact ⟨_, rfl⟩
theorem blGt : ∀ st d e r, opGt st d e = some r → ∃ k, r = .bl k := fun st d e r h => by unfold opGt at h; split at h <;> cases h; exact ⟨_, rfl⟩
theorem blGe : ∀ st d e r, opGe st d e = some r → ∃ k, r = .bl k := fun st d e r h => by unfold opGe at h; split at h <;> cases h; exact ⟨_, rfl⟩
theorem blIsN : ∀ st d e r, opIsN st d e = some r → ∃ k, r = .bl k := fun st d e r h => by unfold opIsN at h; split at h <;> cases h; exact ⟨_, rfl⟩
theorem blNotN : ∀ st d e r, opNotN st d e = some r → ∃ k, r = .bl k := fun st d e r h => by unfold opNotN at h; split at h <;> cases h; exact ⟨_, rfl⟩
theorem blIsB : ∀ st d e r, opIsB st d e = some r → ∃ k, r = .bl k := fun st d e r h => by unfold opIsB at h; split at h <;> cases h; exact ⟨_, rfl⟩
theorem blNotB : ∀ st d e r, opNotB st d e = some r → ∃ k, r = .bl k := fun st d e r h => by unfold opNotB at h; split at h <;> cases h; exact ⟨_, rfl⟩
theorem blIn : ∀ st d e r, opIn st d e = some r → ∃ k, r = .bl k := fun st d e r h => by
  unfold opIn at h
  split at h
  · split at h <;> cases h; exact ⟨_, rfl⟩
  · split at h <;> cases h; exact ⟨_, rfl⟩
  · cases h
theorem blNotIn : ∀ st d e r, opNotIn st d e = some r → ∃ k, r = .bl k := fun st d e r h => by
  unfold opNotIn at h
  split at h
  · split at h <;> cases h; exact ⟨_, rfl⟩
  · split at h <;> cases h; exact ⟨_, rfl⟩
  · cases h
end FL
end
section
set_option Elab.async false
set_option linter.all false
set_option maxRecDepth 100000
set_option maxHeartbeats 2000000
namespace FL
open PySem PySem.Spec PyProof.Rows L2 LamX

/-! ## chains: a op1 b op2 c, the first one a True or False -/
@[simp] def kChain (op op' : Op2) (fc : EF) (γ : Gam) (d e : D) (st : Sto) : Res D := match op st d e with
  | some (.bl true) => (fc γ st).bind fun f st1 => Res.of (op' st1 e f) st1
  | some (.bl false) => .ok (.bl false) st
  | _ => .bad
@[simp] def eChain (op op' : Op2) (fa fb fc : EF) : EF := fun γ st => (fa γ st).bind fun d st1 => (fb γ st1).bind fun e st2 => kChain op op' fc γ d e st2
section
variable {X : Cx} {g : Gx} {W : WX} {pos : Pos} {a b c : Expr} {fa fb fc : EF} {op op2 : Op2}
theorem tF_chain {σ : L2.St} {H : Hp} {Q : VK} (h : tF g W (eChain op op2 fa fb fc) σ H Q) : tChain (rD g op) (rD g op2) (tF g W fa) (tF g W fb) (tF g W fc) σ H Q := by
  obtain ⟨γ, S, ρ, F, st, he, hc, hr⟩ := h
  refine ⟨γ, S, ρ, F, st, he, hc, (RG.bind_ (R := fun S ρ => DV g S ρ) (k := fun d st1 => (fb γ st1).bind fun e st2 => kChain op op2 fc γ d e st2) hr).imp ?_⟩
  rintro x H1 ⟨S1, ρ1, st1, d, le1, c1, rx, h1⟩
  refine ⟨γ, S1, ρ1, F, st1, he.mono le1, c1, (RG.bind_ (R := fun S ρ => DV g S ρ) (k := fun e st2 => kChain op op2 fc γ d e st2) h1).imp ?_⟩
  rintro y H2 ⟨S2, ρ2, st2, e, le2, c2, ry, h2⟩
  dsimp only [kChain] at h2
  split at h2
  · rename_i q
    refine ⟨d, e, .bl true, S2, ρ2, F, st2, c2, DV.mono le2 rx, ry, q, fun v S3 ρ3 H3 le3 c3 rv => ?_⟩
    cases rv
    refine ⟨true, rfl, ?_⟩
    rw [if_pos rfl]
    refine ⟨γ, S3, ρ3, F, st2, he.mono (le1.trans (le2.trans le3)), c3, (RG.bind_ (R := fun S ρ => DV g S ρ) (RG.mono h2 le3)).imp ?_⟩
    rintro z H4 ⟨S4, ρ4, st4, f, le4, c4, rz, h4⟩
    cases q4 : op2 st4 e f with
    | none => rw [q4] at h4; exact h4.elim
    | some r =>
      rw [q4] at h4
      exact ⟨e, f, r, S4, ρ4, F, st4, c4, DV.mono (le3.trans le4) ry, rz, q4, h4⟩
  · rename_i q
    refine ⟨d, e, .bl false, S2, ρ2, F, st2, c2, DV.mono le2 rx, ry, q, fun v S3 ρ3 H3 le3 c3 rv => ?_⟩
    cases rv
    refine ⟨false, rfl, ?_⟩
    rw [if_neg Bool.false_ne_true]
    exact (RG.mono h2 le3).ok_ c3 (.bl false)
  · exact h2.elim
theorem fe_chain {o o2 : CmpOp} (ho : OpR X (compareOp o) (rD g op)) (ho2 : OpR X (compareOp o2) (rD g op2)) (ha : PE X a (tF g W fa)) (hb : PE X b (tF g W fb)) (hc : PE X c (tF g W fc)) (hm : lastMarks [o, o2] [b, c] = false := by with_unfolding_all rfl) :
    PE X (.Compare a [o, o2] [b, c] pos) (tF g W (eChain op op2 fa fb fc)) := (pe_chain ho ho2 ha hb hc hm).imp fun _ _ _ h => tF_chain h
/-- a test by its value, where this is a True or False on every way -/
@[simp] def kBl (d : D) (st : Sto) : Res Bool := match d with
  | .bl b => .ok b st
  | _ => .bad
@[simp] def tBl (f : EF) : TF := fun γ st => (f γ st).bind kBl
theorem tF_bl {f : EF} {σ : L2.St} {H : Hp} {Q : Bool → Hp → Prop} (h : tFT g W (tBl f) σ H Q) : tF g W f σ H fun x H' => ∃ k, x = .bl k ∧ Q k H' := by
  obtain ⟨γ, S, ρ, F, st, he, hc, hr⟩ := h
  refine ⟨γ, S, ρ, F, st, he, hc, (RG.bind_ (R := fun S ρ => DV g S ρ) (k := kBl) hr).imp ?_⟩
  rintro x H1 ⟨S1, ρ1, st1, d, le1, c1, rx, h1⟩
  dsimp only [kBl] at h1
  split at h1
  · cases rx
    exact ⟨_, rfl, h1.ok_ c1 rfl⟩
  · exact h1.elim
theorem ft_chain {o o2 : CmpOp} (ho : OpR X (compareOp o) (rD g op)) (ho2 : OpR X (compareOp o2) (rD g op2)) (ha : PE X a (tF g W fa)) (hb : PE X b (tF g W fb)) (hc : PE X c (tF g W fc)) (hm : lastMarks [o, o2] [b, c] = false := by with_unfolding_all rfl) :
    PT X (.Compare a [o, o2] [b, c] pos) (tFT g W (tBl (eChain op op2 fa fb fc))) := by
  refine (pt_chain ho ho2 ha hb hc hm).imp ?_
  intro σ H Q h
  exact tF_chain (tF_bl h)
theorem ft_cmpB {o : CmpOp} (ho : OpR X (compareOp o) (rD g op)) (ha : PE X a (tF g W fa)) (hb : PE X b (tF g W fb)) (hm : behindInMarks o b = false) :
    PT X (.Compare a [o] [b] pos) (tFT g W (tBl (e2 op fa fb))) := by
  refine (pt_cmpR ho ha hb hm).imp ?_
  intro σ H Q h
  exact tF_op2 (tF_bl h)
end

/-! ## slices -/
@[simp] def pNone : Gam → Sto → Res (Option Int) := fun _ st => .ok none st
@[simp] def kPart (d : D) (st : Sto) : Res (Option Int) := match d with
  | .int i => .ok (some i) st
  | _ => .bad
@[simp] def pSome (f : EF) : Gam → Sto → Res (Option Int) := fun γ st => (f γ st).bind kPart
def ROpt : Hp → List Addr → Option Int → Option Int → Prop := fun _ _ b c => b = c
def cutD {α : Type} (xs : List α) (lo hi : Option Int) : List α := (xs.drop (HT.sIx xs.length 0 lo)).take (HT.sIx xs.length xs.length hi - HT.sIx xs.length 0 lo)
def opSl (st : Sto) (d : D) (lo hi : Option Int) : Option D := match d with
  | .lst xs => some (.lst (cutD xs lo hi))
  | .ro xs => some (.lst (cutD xs lo hi))
  | .tup xs => some (.tup (cutD xs lo hi))
  | .str z => if z.length ≤ 16777216 then some (.str (cutS z lo hi)) else none
  | .cell n => match st[n]? with
    | some (some (.lst xs)) => some (.lst (cutD xs lo hi))
    | _ => none
  | _ => none
@[simp] def eSl (f : EF) (p q : Gam → Sto → Res (Option Int)) : EF := fun γ st => (f γ st).bind fun d st1 => (p γ st1).bind fun lo st2 => (q γ st2).bind fun hi st3 => Res.of (opSl st3 d lo hi) st3
theorem _root_.L2.PO.imp {X : Cx} {e : Option Expr} {t t' : TO} (h : PO X e t) (i : ∀ σ H Q, t' σ H Q → t σ H Q) : PO X e t' := ⟨fun pins s σ H Q I q => h.run pins s σ H Q I (i _ _ _ q)⟩
section
variable {X : Cx} {g : Gx} {W : WX} {pos p2 : Pos} {e : Expr} {fe : EF} {lo hi : Option Expr} {p q : Gam → Sto → Res (Option Int)}
theorem fo_none : PO X none (tG g W ROpt pNone) := po_none.imp fun σ H Q ⟨_, S, ρ, _, _, _, hc, h⟩ => h.ok_ hc rfl
theorem fo_some (h : PE X e (tF g W fe)) : PO X (some e) (tG g W ROpt (pSome fe)) := by
  refine (po_some h).imp ?_
  rintro σ H Q ⟨γ, S, ρ, F, st, he, hc, hr⟩
  refine ⟨γ, S, ρ, F, st, he, hc, (RG.bind_ (R := fun S ρ => DV g S ρ) (k := kPart) hr).imp ?_⟩
  rintro x H1 ⟨S1, ρ1, st1, d, le1, c1, rx, h1⟩
  dsimp only [kPart] at h1
  split at h1
  · cases rx
    exact ⟨_, rfl, h1.ok_ c1 rfl⟩
  · exact h1.elim
theorem DVs.cut {g : Gx} {S : Hp} {ρ : List Addr} {vs : List V} {ds : List D} (h : DVs g S ρ vs ds) (lo hi : Option Int) : DVs g S ρ (cutV vs lo hi) (cutD ds lo hi) := by
  unfold cutV cutD
  rw [h.length]
  exact (h.drop _).take _
def rSlD (g : Gx) : V → Option Int → Option Int → Hp → VK → Prop := fun x lo hi H Q => ∃ d r S ρ F st, Cfg g S ρ F st H ∧ DV g S ρ x d ∧ opSl st d lo hi = some r ∧
  ∀ v S' ρ' H', Le S S' ρ ρ' → Cfg g S' ρ' F st H' → DV g S' ρ' v r → Q v H'
theorem okSl (hK : Gok X g) : SlR X (rSlD g) := by
  rintro pins s σ H x v vl vu lo hi sl Q I rx hs pl pu ⟨d, r, S, ρ, F, st, c, dx, ho, q⟩
  have newL : ∀ (a : Addr) (xs : List V) (ds : List D), SqL X.K H a xs → DVs g S ρ xs ds → r = .lst (cutD ds lo hi) → x = .ref a → ∃ T id, typeLookup (.type T) "__getitem__" = pure (some (.builtin id)) ∧ s.TypeIs v T ∧ wpAny (model X.prog X.w) X.A (getItem v (.ref sl)) (EP X pins σ Q) X.xe s := by
    rintro a xs ds h1 r1 rfl rfl
    refine sl_list pins s σ H _ v vl vu lo hi sl Q I rx hs pl pu ⟨a, xs, rfl, h1, fun p hp => ?_⟩
    obtain ⟨c2, le⟩ := c.laid (o := .lst (cutV xs lo hi)) hp
    exact q _ _ _ _ le c2 (.lst upd_same ((r1.cut lo hi).mono le))
  unfold opSl at ho
  split at ho
  · cases ho
    obtain ⟨a, xs, rfl, h1, r1⟩ := dx.lst_
    exact newL a xs _ (SqL.of (c.sub _ _ h1)) r1 rfl rfl
  · cases ho
    obtain ⟨a, xs, rfl, h1, r1⟩ := dx.ro_
    exact newL a xs _ (by rw [← hK.K]; exact c.sqL h1) r1 rfl rfl
  · cases ho
    obtain ⟨a, xs, rfl, h1, r1⟩ := dx.tup_
    refine sl_tupA pins s σ H _ v vl vu lo hi sl Q I rx hs pl pu ⟨a, xs, rfl, by rw [← hK.K]; exact c.sqT h1, fun hw => ?_, fun _ p hp => ?_⟩
    · rename_i ds
      have e : cutD ds lo hi = ds := by
        unfold cutD
        rw [← r1.length, hw.1, hw.2, r1.length]
        simp
      rw [e] at q
      exact q _ S ρ H (Le.refl _ _) c (.tup h1 r1)
    · obtain ⟨c2, le⟩ := c.laid (o := .tup (cutV xs lo hi)) hp
      exact q _ _ _ _ le c2 (.tup (.inl (.inl upd_same)) ((r1.cut lo hi).mono le))
  · split at ho
    · rename_i hz
      cases ho
      obtain rfl := dx.str_
      exact sl_str pins s σ H _ v vl vu lo hi sl Q I rx hs pl pu ⟨_, rfl, by rw [sizeLine_eq]; exact hz, q _ S ρ H (Le.refl _ _) c (.str _)⟩
    · cases ho
  · split at ho
    · rename_i ds hds
      cases ho
      obtain ⟨a, xs, rfl, _, h1, r1⟩ := c.cell dx hds
      exact newL a xs _ (SqL.of h1) r1 rfl rfl
    · cases ho
  · cases ho
theorem fe_sl (hK : Gok X g) (he : PE X e (tF g W fe)) (hl : PO X lo (tG g W ROpt p)) (hu : PO X hi (tG g W ROpt q)) : PE X (.Subscript e (.Slice lo hi none p2) pos) (tF g W (eSl fe p q)) := by
  refine (pe_slice (okSl hK) he hl hu).imp ?_
  rintro σ H Q ⟨γ, S, ρ, F, st, hv, hc, hr⟩
  refine ⟨γ, S, ρ, F, st, hv, hc, (RG.bind_ (R := fun S ρ => DV g S ρ) (k := fun d st1 => (p γ st1).bind fun lo st2 => (q γ st2).bind fun hi st3 => Res.of (opSl st3 d lo hi) st3) hr).imp ?_⟩
  rintro x H1 ⟨S1, ρ1, st1, d, le1, c1, rx, h1⟩
  refine ⟨γ, S1, ρ1, F, st1, hv.mono le1, c1, (RG.bind_ (R := ROpt) (k := fun lo st2 => (q γ st2).bind fun hi st3 => Res.of (opSl st3 d lo hi) st3) h1).imp ?_⟩
  rintro l H2 ⟨S2, ρ2, st2, l', le2, c2, rl, h2⟩
  have zl : l = l' := rl
  subst zl
  refine ⟨γ, S2, ρ2, F, st2, hv.mono (le1.trans le2), c2, (RG.bind_ (R := ROpt) (k := fun hi st3 => Res.of (opSl st3 d l hi) st3) h2).imp ?_⟩
  rintro u H3 ⟨S3, ρ3, st3, u', le3, c3, ru, h3⟩
  have zu : u = u' := ru
  subst zu
  cases qq : opSl st3 d l u with
  | none => rw [qq] at h3; exact h3.elim
  | some r =>
    rw [qq] at h3
    exact ⟨d, r, S3, ρ3, F, st3, c3, DV.mono (le2.trans le3) rx, qq, h3⟩
end

/-! ## built-in functions -/
abbrev OpN := Sto → List D → Option D
def rDN (g : Gx) (op : OpN) : List V → Hp → VK → Prop := fun xs H Q => ∃ ds r S ρ F st, Cfg g S ρ F st H ∧ DVs g S ρ xs ds ∧ op st ds = some r ∧
  ∀ v S' ρ' H', Le S S' ρ ρ' → Cfg g S' ρ' F st H' → DV g S' ρ' v r → Q v H'
@[simp] def kOpN (op : OpN) (ds : List D) (st : Sto) : Res D := Res.of (op st ds) st
@[simp] def eBuilt (op : OpN) (fa : AF) : EF := fun γ st => (fa γ st).bind (kOpN op)
theorem tF_built {g : Gx} {W : WX} {op : OpN} {fa : AF} {σ : L2.St} {H : Hp} {Q : VK} (h : tF g W (eBuilt op fa) σ H Q) : tCB (rDN g op) (tFA g W fa) σ H Q := by
  obtain ⟨γ, S, ρ, F, st, he, hc, hr⟩ := h
  refine ⟨γ, S, ρ, F, st, he, hc, (RG.bind_ (R := fun S ρ => DVs g S ρ) (k := kOpN op) hr).imp ?_⟩
  rintro xs H1 ⟨S1, ρ1, st1, ds, le1, c1, rx, h1⟩
  dsimp only [kOpN] at h1
  cases q : op st1 ds with
  | none => rw [q] at h1; exact h1.elim
  | some r =>
    rw [q] at h1
    exact ⟨ds, r, S1, ρ1, F, st1, c1, rx, q, h1⟩
section
variable {X : Cx} {g : Gx} {W : WX} {pos p : Pos} {x : Str} {e : Expr} {es : List Expr} {fa : AF} {op : OpN} {id T : String}
theorem fe_builtin (ho : CallR X (.builtin id) (rDN g op)) (hm : X.mg x = none) (ha : PA X (e :: es) (tFA g W fa)) (hg : Gl X x := by rfl) (hv : bootBuiltins x = some (.builtin id) := by decide +kernel) (hn : x ≠ "__name__" := by decide) (hdb : (x == ("__debug__" : Str)) = false := by decide)
    (he : starEach (e :: es) X.env = (false, eval e X.env) :: starEach es X.env := by rfl) (hpl : (backTo pos (starEach es X.env)).any (·.1) = false := by rfl) : PE X (.Call (.Name x p) (e :: es) [] pos) (tF g W (eBuilt op fa)) :=
  (pe_callB ho hg hm hv ha hn hdb he hpl).imp fun _ _ _ h => tF_built h
theorem fe_type (ho : CallR X (.type T) (rDN g op)) (hm : X.mg x = none) (ha : PA X (e :: es) (tFA g W fa)) (hg : Gl X x := by rfl) (hv : bootBuiltins x = some (.type T) := by decide +kernel) (hn : x ≠ "__name__" := by decide) (hdb : (x == ("__debug__" : Str)) = false := by decide)
    (he : starEach (e :: es) X.env = (false, eval e X.env) :: starEach es X.env := by rfl) (hpl : (backTo pos (starEach es X.env)).any (·.1) = false := by rfl) : PE X (.Call (.Name x p) (e :: es) [] pos) (tF g W (eBuilt op fa)) :=
  (pe_callTy ho hg hm hv ha hn hdb he hpl).imp fun _ _ _ h => tF_built h
/-- a built-in function by a module's name (from math import gcd) -/
theorem fe_bfun (ho : CallR X (.builtin id) (rDN g op)) (hm : X.mg x = some (.builtin id)) (ha : PA X (e :: es) (tFA g W fa)) (hg : Gl X x := by rfl) (hdb : (x == ("__debug__" : Str)) = false := by decide)
    (he : starEach (e :: es) X.env = (false, eval e X.env) :: starEach es X.env := by rfl) (hpl : (backTo pos (starEach es X.env)).any (·.1) = false := by rfl) : PE X (.Call (.Name x p) (e :: es) [] pos) (tF g W (eBuilt op fa)) :=
  (pe_callBfun ho hg hm ha hdb he hpl).imp fun _ _ _ h => tF_built h
end
def opLen : OpN := fun st ds => match ds with
  | [.str z] => if z.length ≤ 16777216 then some (.int z.length) else none
  | [.lst xs] => some (.int xs.length)
  | [.ro xs] => some (.int xs.length)
  | [.tup xs] => some (.int xs.length)
  | [.cell n] => match st[n]? with
    | some (some (.lst xs)) => some (.int xs.length)
    | _ => none
  | _ => none
def opAbs : OpN := fun _ ds => match ds with
  | [.int i] => some (.int (if i < 0 then -i else i))
  | _ => none
def opInt : OpN := fun _ ds => match ds with
  | [.int i] => some (.int i)
  | [.bl b] => some (.int (if b then 1 else 0))
  | _ => none
def opBool : OpN := fun _ ds => match ds with
  | [.int i] => some (.bl (i != 0))
  | [.bl b] => some (.bl b)
  | _ => none
def opStrI : OpN := fun _ ds => match ds with
  | [.int i] => if i.natAbs.log2 < 1920 then some (.str (toString i)) else none
  | _ => none
def opTuple : OpN := fun st ds => match ds with
  | [.lst xs] => some (.tup xs)
  | [.ro xs] => some (.tup xs)
  | [.tup xs] => some (.tup xs)
  | [.cell n] => match st[n]? with
    | some (some (.lst xs)) => some (.tup xs)
    | _ => none
  | _ => none
def opListOf : OpN := fun st ds => match ds with
  | [.lst xs] => some (.lst xs)
  | [.ro xs] => some (.lst xs)
  | [.tup xs] => some (.lst xs)
  | [.cell n] => match st[n]? with
    | some (some (.lst xs)) => some (.lst xs)
    | _ => none
  | _ => none
def opGcd : OpN := fun _ ds => match ds with
  | [.int i, .int j] => some (.int ((Nat.gcd i.natAbs j.natAbs : Nat) : Int))
  | _ => none
def opMax2 : OpN := fun _ ds => match ds with
  | [.int i, .int j] => some (.int (if j > i then j else i))
  | _ => none
def opMin2 : OpN := fun _ ds => match ds with
  | [.int i, .int j] => some (.int (if j < i then j else i))
  | _ => none
/-- lists of ints, of truths -/
def intsOf : List D → Option (List Int)
  | [] => some []
  | .int i :: ds => (intsOf ds).map (i :: ·)
  | _ => none
def boolsOf : List D → Option (List Bool)
  | [] => some []
  | .bl i :: ds => (boolsOf ds).map (i :: ·)
  | _ => none
def opSum : OpN := fun _ ds => match ds with
  | [.lst xs] => (intsOf xs).map fun ns => .int ns.sum
  | _ => none
def opAll : OpN := fun _ ds => match ds with
  | [.lst xs] => (boolsOf xs).map fun ns => .bl (ns.all id)
  | _ => none
def opAny : OpN := fun _ ds => match ds with
  | [.lst xs] => (boolsOf xs).map fun ns => .bl (ns.any id)
  | _ => none
theorem intsOf_eq : ∀ {ds : List D} {ns : List Int}, intsOf ds = some ns → ds = ns.map D.int
  | [], ns, h => by cases h; rfl
  | .int i :: ds, ns, h => by
    simp only [intsOf] at h
    cases q : intsOf ds with
    | none => rw [q] at h; cases h
    | some ms => rw [q] at h; cases h; rw [intsOf_eq q]; rfl
  | .non :: _, _, h => by simp [intsOf] at h
  | .bl _ :: _, _, h => by simp [intsOf] at h
  | .str _ :: _, _, h => by simp [intsOf] at h
  | .tup _ :: _, _, h => by simp [intsOf] at h
  | .lst _ :: _, _, h => by simp [intsOf] at h
  | .ro _ :: _, _, h => by simp [intsOf] at h
  | .cell _ :: _, _, h => by simp [intsOf] at h
  | .exc _ _ :: _, _, h => by simp [intsOf] at h
  | .dic :: _, _, h => by simp [intsOf] at h
  | .ty _ :: _, _, h => by simp [intsOf] at h
  | .cls _ :: _, _, h => by simp [intsOf] at h
  | .fn _ _ _ _ _ :: _, _, h => by simp [intsOf] at h
theorem boolsOf_eq : ∀ {ds : List D} {ns : List Bool}, boolsOf ds = some ns → ds = ns.map D.bl
  | [], ns, h => by cases h; rfl
  | .bl i :: ds, ns, h => by
    simp only [boolsOf] at h
    cases q : boolsOf ds with
    | none => rw [q] at h; cases h
    | some ms => rw [q] at h; cases h; rw [boolsOf_eq q]; rfl
  | .non :: _, _, h => by simp [boolsOf] at h
  | .int _ :: _, _, h => by simp [boolsOf] at h
  | .str _ :: _, _, h => by simp [boolsOf] at h
  | .tup _ :: _, _, h => by simp [boolsOf] at h
  | .lst _ :: _, _, h => by simp [boolsOf] at h
  | .ro _ :: _, _, h => by simp [boolsOf] at h
  | .cell _ :: _, _, h => by simp [boolsOf] at h
  | .exc _ _ :: _, _, h => by simp [boolsOf] at h
  | .dic :: _, _, h => by simp [boolsOf] at h
  | .ty _ :: _, _, h => by simp [boolsOf] at h
  | .cls _ :: _, _, h => by simp [boolsOf] at h
  | .fn _ _ _ _ _ :: _, _, h => by simp [boolsOf] at h
theorem DVs.of_ints {g : Gx} {S : Hp} {ρ : List Addr} : ∀ {ns : List Int} {vs : List V}, DVs g S ρ vs (ns.map D.int) → vs = ns.map V.int
  | [], _, h => by cases h; rfl
  | n :: ns, _, h => by
    cases h with
    | cons a b => cases a; rw [DVs.of_ints b]; rfl
theorem DVs.of_bools {g : Gx} {S : Hp} {ρ : List Addr} : ∀ {ns : List Bool} {vs : List V}, DVs g S ρ vs (ns.map D.bl) → vs = ns.map V.bl
  | [], _, h => by cases h; rfl
  | n :: ns, _, h => by
    cases h with
    | cons a b => cases a; rw [DVs.of_bools b]; rfl
section
variable {X : Cx} {g : Gx}
theorem DVs.one_ {g : Gx} {S : Hp} {ρ : List Addr} {xs : List V} {d : D} (h : DVs g S ρ xs [d]) : ∃ v, xs = [v] ∧ DV g S ρ v d := by
  cases h with
  | cons a b => cases b; exact ⟨_, rfl, a⟩
theorem DVs.two_ {g : Gx} {S : Hp} {ρ : List Addr} {xs : List V} {d e : D} (h : DVs g S ρ xs [d, e]) : ∃ v w, xs = [v, w] ∧ DV g S ρ v d ∧ DV g S ρ w e := by
  cases h with
  | cons a b =>
    obtain ⟨w, rfl, r⟩ := b.one_
    exact ⟨_, _, rfl, a, r⟩
theorem okLen (hK : Gok X g) : CallR X (.builtin "len") (rDN g opLen) := by
  rintro pins s σ H xs us Q I r ⟨ds, r', S, ρ, F, st, c, dx, ho, q⟩
  unfold opLen at ho
  split at ho
  · split at ho
    · rename_i hz
      cases ho
      obtain ⟨v, rfl, d1⟩ := dx.one_
      obtain rfl := d1.str_
      exact call_len_str pins s σ H _ us Q I r ⟨_, rfl, by rw [sizeLine_eq]; exact hz, q _ S ρ H (Le.refl _ _) c (.int _)⟩
    · cases ho
  · cases ho
    obtain ⟨v, rfl, d1⟩ := dx.one_
    obtain ⟨a, ys, rfl, h1, r1⟩ := d1.lst_
    exact call_len_seq pins s σ H _ us Q I r ⟨a, ys, rfl, .inl (SqL.of (c.sub _ _ h1)), by rw [r1.length]; exact q _ S ρ H (Le.refl _ _) c (.int _)⟩
  · cases ho
    obtain ⟨v, rfl, d1⟩ := dx.one_
    obtain ⟨a, ys, rfl, h1, r1⟩ := d1.ro_
    exact call_len_seq pins s σ H _ us Q I r ⟨a, ys, rfl, .inl (by rw [← hK.K]; exact c.sqL h1), by rw [r1.length]; exact q _ S ρ H (Le.refl _ _) c (.int _)⟩
  · cases ho
    obtain ⟨v, rfl, d1⟩ := dx.one_
    obtain ⟨a, ys, rfl, h1, r1⟩ := d1.tup_
    exact call_len_seq pins s σ H _ us Q I r ⟨a, ys, rfl, .inr (by rw [← hK.K]; exact c.sqT h1), by rw [r1.length]; exact q _ S ρ H (Le.refl _ _) c (.int _)⟩
  · split at ho
    · rename_i hds
      cases ho
      obtain ⟨v, rfl, d1⟩ := dx.one_
      obtain ⟨a, ys, rfl, _, h1, r1⟩ := c.cell d1 hds
      exact call_len_seq pins s σ H _ us Q I r ⟨a, ys, rfl, .inl (SqL.of h1), by rw [r1.length]; exact q _ S ρ H (Le.refl _ _) c (.int _)⟩
    · cases ho
  · cases ho
theorem okAbs : CallR X (.builtin "abs") (rDN g opAbs) := by
  rintro pins s σ H xs us Q I r ⟨ds, r', S, ρ, F, st, c, dx, ho, q⟩
  unfold opAbs at ho
  split at ho
  · cases ho
    obtain ⟨v, rfl, d1⟩ := dx.one_
    obtain rfl := d1.int_
    exact call_abs pins s σ H _ us Q I r ⟨_, rfl, q _ S ρ H (Le.refl _ _) c (.int _)⟩
  · cases ho
theorem okInt : CallR X (.type "int") (rDN g opInt) := by
  rintro pins s σ H xs us Q I r ⟨ds, r', S, ρ, F, st, c, dx, ho, q⟩
  unfold opInt at ho
  split at ho
  · cases ho
    obtain ⟨v, rfl, d1⟩ := dx.one_
    obtain rfl := d1.int_
    exact call_int1 pins s σ H _ us Q I r (.inl ⟨_, rfl, q _ S ρ H (Le.refl _ _) c (.int _)⟩)
  · cases ho
    obtain ⟨v, rfl, d1⟩ := dx.one_
    obtain rfl := d1.bl_
    exact call_int1 pins s σ H _ us Q I r (.inr ⟨_, rfl, q _ S ρ H (Le.refl _ _) c (.int _)⟩)
  · cases ho
theorem okBool : CallR X (.type "bool") (rDN g opBool) := by
  rintro pins s σ H xs us Q I r ⟨ds, r', S, ρ, F, st, c, dx, ho, q⟩
  unfold opBool at ho
  split at ho
  · cases ho
    obtain ⟨v, rfl, d1⟩ := dx.one_
    obtain rfl := d1.int_
    exact call_bool1 pins s σ H _ us Q I r (.inl ⟨_, rfl, q _ S ρ H (Le.refl _ _) c (.bl _)⟩)
  · cases ho
    obtain ⟨v, rfl, d1⟩ := dx.one_
    obtain rfl := d1.bl_
    exact call_bool1 pins s σ H _ us Q I r (.inr ⟨_, rfl, q _ S ρ H (Le.refl _ _) c (.bl _)⟩)
  · cases ho
theorem okStrI : CallR X (.type "str") (rDN g opStrI) := by
  rintro pins s σ H xs us Q I r ⟨ds, r', S, ρ, F, st, c, dx, ho, q⟩
  unfold opStrI at ho
  split at ho
  · split at ho
    · rename_i hz
      cases ho
      obtain ⟨v, rfl, d1⟩ := dx.one_
      obtain rfl := d1.int_
      exact call_str_int pins s σ H _ us Q I r ⟨_, rfl, hz, q _ S ρ H (Le.refl _ _) c (.str _)⟩
    · cases ho
  · cases ho
theorem okTuple (hK : Gok X g) : CallR X (.type "tuple") (rDN g opTuple) := by
  rintro pins s σ H xs us Q I r ⟨ds, r', S, ρ, F, st, c, dx, ho, q⟩
  unfold opTuple at ho
  split at ho
  · cases ho
    obtain ⟨v, rfl, d1⟩ := dx.one_
    obtain ⟨a, ys, rfl, h1, r1⟩ := d1.lst_
    refine call_tuple_of pins s σ H _ us Q I r ⟨a, ys, rfl, .inl ⟨SqL.of (c.sub _ _ h1), fun p hp => ?_⟩⟩
    obtain ⟨c2, le⟩ := c.laid (o := .tup ys) hp
    exact q _ _ _ _ le c2 (.tup (.inl (.inl upd_same)) (r1.mono le))
  · cases ho
    obtain ⟨v, rfl, d1⟩ := dx.one_
    obtain ⟨a, ys, rfl, h1, r1⟩ := d1.ro_
    refine call_tuple_of pins s σ H _ us Q I r ⟨a, ys, rfl, .inl ⟨by rw [← hK.K]; exact c.sqL h1, fun p hp => ?_⟩⟩
    obtain ⟨c2, le⟩ := c.laid (o := .tup ys) hp
    exact q _ _ _ _ le c2 (.tup (.inl (.inl upd_same)) (r1.mono le))
  · cases ho
    obtain ⟨v, rfl, d1⟩ := dx.one_
    obtain ⟨a, ys, rfl, h1, r1⟩ := d1.tup_
    exact call_tuple_of pins s σ H _ us Q I r ⟨a, ys, rfl, .inr ⟨by rw [← hK.K]; exact c.sqT h1, q _ S ρ H (Le.refl _ _) c (.tup h1 r1)⟩⟩
  · split at ho
    · rename_i hds
      cases ho
      obtain ⟨v, rfl, d1⟩ := dx.one_
      obtain ⟨a, ys, rfl, _, h1, r1⟩ := c.cell d1 hds
      refine call_tuple_of pins s σ H _ us Q I r ⟨a, ys, rfl, .inl ⟨SqL.of h1, fun p hp => ?_⟩⟩
      obtain ⟨c2, le⟩ := c.laid (o := .tup ys) hp
      exact q _ _ _ _ le c2 (.tup (.inl (.inl upd_same)) (r1.mono le))
    · cases ho
  · cases ho
theorem okListOf (hK : Gok X g) : CallR X (.type "list") (rDN g opListOf) := by
  rintro pins s σ H xs us Q I r ⟨ds, r', S, ρ, F, st, c, dx, ho, q⟩
  unfold opListOf at ho
  split at ho
  · cases ho
    obtain ⟨v, rfl, d1⟩ := dx.one_
    obtain ⟨a, ys, rfl, h1, r1⟩ := d1.lst_
    refine call_list_of pins s σ H _ us Q I r ⟨a, ys, rfl, .inl (SqL.of (c.sub _ _ h1)), fun p hp => ?_⟩
    obtain ⟨c2, le⟩ := c.laid (o := .lst ys) hp
    exact q _ _ _ _ le c2 (.lst upd_same (r1.mono le))
  · cases ho
    obtain ⟨v, rfl, d1⟩ := dx.one_
    obtain ⟨a, ys, rfl, h1, r1⟩ := d1.ro_
    refine call_list_of pins s σ H _ us Q I r ⟨a, ys, rfl, .inl (by rw [← hK.K]; exact c.sqL h1), fun p hp => ?_⟩
    obtain ⟨c2, le⟩ := c.laid (o := .lst ys) hp
    exact q _ _ _ _ le c2 (.lst upd_same (r1.mono le))
  · cases ho
    obtain ⟨v, rfl, d1⟩ := dx.one_
    obtain ⟨a, ys, rfl, h1, r1⟩ := d1.tup_
    refine call_list_of pins s σ H _ us Q I r ⟨a, ys, rfl, .inr (by rw [← hK.K]; exact c.sqT h1), fun p hp => ?_⟩
    obtain ⟨c2, le⟩ := c.laid (o := .lst ys) hp
    exact q _ _ _ _ le c2 (.lst upd_same (r1.mono le))
  · split at ho
    · rename_i hds
      cases ho
      obtain ⟨v, rfl, d1⟩ := dx.one_
      obtain ⟨a, ys, rfl, _, h1, r1⟩ := c.cell d1 hds
      refine call_list_of pins s σ H _ us Q I r ⟨a, ys, rfl, .inl (SqL.of h1), fun p hp => ?_⟩
      obtain ⟨c2, le⟩ := c.laid (o := .lst ys) hp
      exact q _ _ _ _ le c2 (.lst upd_same (r1.mono le))
    · cases ho
  · cases ho
theorem okGcd : CallR X (.builtin "math.gcd") (rDN g opGcd) := by
  rintro pins s σ H xs us Q I r ⟨ds, r', S, ρ, F, st, c, dx, ho, q⟩
  unfold opGcd at ho
  split at ho
  · cases ho
    obtain ⟨v, w, rfl, d1, d2⟩ := dx.two_
    obtain rfl := d1.int_
    obtain rfl := d2.int_
    exact cr_gcd pins s σ H _ us Q I r ⟨_, _, rfl, q _ S ρ H (Le.refl _ _) c (.int _)⟩
  · cases ho
theorem okMax2 (hc : X.calm = true) : CallR X (.builtin "max") (rDN g opMax2) := by
  rintro pins s σ H xs us Q I r ⟨ds, r', S, ρ, F, st, c, dx, ho, q⟩
  unfold opMax2 at ho
  split at ho
  · cases ho
    obtain ⟨v, w, rfl, d1, d2⟩ := dx.two_
    obtain rfl := d1.int_
    obtain rfl := d2.int_
    exact call_max2 hc pins s σ H _ us Q I r ⟨_, _, rfl, q _ S ρ H (Le.refl _ _) c (.int _)⟩
  · cases ho
theorem okMin2 (hc : X.calm = true) : CallR X (.builtin "min") (rDN g opMin2) := by
  rintro pins s σ H xs us Q I r ⟨ds, r', S, ρ, F, st, c, dx, ho, q⟩
  unfold opMin2 at ho
  split at ho
  · cases ho
    obtain ⟨v, w, rfl, d1, d2⟩ := dx.two_
    obtain rfl := d1.int_
    obtain rfl := d2.int_
    exact call_min2 hc pins s σ H _ us Q I r ⟨_, _, rfl, q _ S ρ H (Le.refl _ _) c (.int _)⟩
  · cases ho
theorem okSum (hc : X.calm = true) (hK : Gok X g) : CallR X (.builtin "sum") (rDN g opSum) := by
  rintro pins s σ H xs us Q I r ⟨ds, r', S, ρ, F, st, c, dx, ho, q⟩
  unfold opSum at ho
  split at ho
  · rename_i ys
    cases z : intsOf ys with
    | none => rw [z] at ho; cases ho
    | some ns =>
      rw [z] at ho
      cases ho
      obtain rfl := intsOf_eq z
      obtain ⟨v, rfl, d1⟩ := dx.one_
      obtain ⟨a, vs, rfl, h1, r1⟩ := d1.lst_
      obtain rfl := r1.of_ints
      exact cr_sum hc pins s σ H _ us Q I r ⟨a, ns, rfl, SqL.of (c.sub _ _ h1), q _ S ρ H (Le.refl _ _) c (.int _)⟩
  · cases ho
theorem okAll (hc : X.calm = true) (hK : Gok X g) : CallR X (.builtin "all") (rDN g opAll) := by
  rintro pins s σ H xs us Q I r ⟨ds, r', S, ρ, F, st, c, dx, ho, q⟩
  unfold opAll at ho
  split at ho
  · rename_i ys
    cases z : boolsOf ys with
    | none => rw [z] at ho; cases ho
    | some ns =>
      rw [z] at ho
      cases ho
      obtain rfl := boolsOf_eq z
      obtain ⟨v, rfl, d1⟩ := dx.one_
      obtain ⟨a, vs, rfl, h1, r1⟩ := d1.lst_
      obtain rfl := r1.of_bools
      exact cr_all hc pins s σ H _ us Q I r ⟨a, ns, rfl, SqL.of (c.sub _ _ h1), q _ S ρ H (Le.refl _ _) c (.bl _)⟩
  · cases ho
theorem okAny (hc : X.calm = true) (hK : Gok X g) : CallR X (.builtin "any") (rDN g opAny) := by
  rintro pins s σ H xs us Q I r ⟨ds, r', S, ρ, F, st, c, dx, ho, q⟩
  unfold opAny at ho
  split at ho
  · rename_i ys
    cases z : boolsOf ys with
    | none => rw [z] at ho; cases ho
    | some ns =>
      rw [z] at ho
      cases ho
      obtain rfl := boolsOf_eq z
      obtain ⟨v, rfl, d1⟩ := dx.one_
      obtain ⟨a, vs, rfl, h1, r1⟩ := d1.lst_
      obtain rfl := r1.of_bools
      exact cr_any hc pins s σ H _ us Q I r ⟨a, ns, rfl, SqL.of (c.sub _ _ h1), q _ S ρ H (Le.refl _ _) c (.bl _)⟩
  · cases ho
end
end FL
end
section
set_option Elab.async false
set_option linter.all false
set_option maxRecDepth 100000
set_option maxHeartbeats 2000000
namespace FL
open PySem PySem.Spec PyProof.Rows L2 LamX

/-! ## lists that change -/
/-- a cell is taken over as immutable data (a look of ours, no step of the program's) -/
@[simp] def kFrz (d : D) (st : Sto) : Res D := match d with
  | .cell n => match st[n]? with
    | some (some (.lst ds)) => .ok (.lst ds) (st.set n none)
    | _ => .bad
  | d => .ok d st
@[simp] def eFrz (f : EF) : EF := fun γ st => (f γ st).bind kFrz
section
variable {X : Cx} {g : Gx} {W : WX} {pos : Pos} {e : Expr} {f : EF}
theorem fe_frz (h : PE X e (tF g W f)) : PE X e (tF g W (eFrz f)) := by
  refine h.imp ?_
  rintro σ H Q ⟨γ, S, ρ, F, st, hv, hc, hr⟩
  refine ⟨γ, S, ρ, F, st, hv, hc, (RG.bind_ (R := fun S ρ => DV g S ρ) (k := kFrz) hr).imp ?_⟩
  rintro x H1 ⟨S1, ρ1, st1, d, le1, c1, rx, h1⟩
  unfold kFrz at h1
  split at h1
  · split at h1
    · rename_i ds hds
      cases rx with
      | cell ha =>
        obtain ⟨S2, c2, le2, r2⟩ := c1.frozen hds ha
        exact h1 _ _ _ _ le2 c2 r2
    · exact h1.elim
  · exact h1.ok_ c1 rx
/-- a method of a list that changes it: the new list, the answer -/
abbrev OpC := List D → List D → Option (List D × D)
@[simp] def kCell (op : OpC) (d : D) (ds : List D) (st : Sto) : Res D := match d with
  | .cell n => match st[n]? with
    | some (some (.lst xs)) => match op xs ds with
      | some (ys, r) => .ok r (st.set n (some (.lst ys)))
      | none => .bad
    | _ => .bad
  | _ => .bad
@[simp] def kLive (d : D) (st : Sto) : Bool := match d with
  | .cell n => match st[n]? with
    | some (some (.lst _)) => true
    | _ => false
  | _ => false
@[simp] def eCellM (op : OpC) (fo : EF) (fa : AF) : EF := fun γ st => (fo γ st).bind fun d st1 => if kLive d st1 then (fa γ st1).bind fun ds st2 => kCell op d ds st2 else .bad
@[simp] def eCellM0 (op : OpC) (fo : EF) : EF := fun γ st => (fo γ st).bind fun d st1 => kCell op d [] st1
def ocAppend : OpC := fun xs ds => match ds with
  | [d] => if xs.length < 16777216 then some (xs ++ [d], .non) else none
  | _ => none
def ocPop0 : OpC := fun xs ds => match ds with
  | [] => match xs[xs.length - 1]? with
    | some y => some (xs.dropLast, y)
    | none => none
  | _ => none
def ocPop1 : OpC := fun xs ds => match ds with
  | [.int i] => match ixN xs.length i with
    | some k => match xs[k]? with
      | some y => if xs.length ≤ 16777216 then some (xs.eraseIdx k, y) else none
      | none => none
    | none => none
  | _ => none
/-- xs.extend(ys), ys an immutable list -/
def ocExtend : OpC := fun xs ds => match ds with
  | [.lst ys] => if xs.length + ys.length ≤ 16777216 then some (xs ++ ys, .non) else none
  | _ => none
/-- what HandS says of such a method -/
def MtC (X : Cx) (id : String) (op : OpC) : Prop := ∀ (g : Gx) (S : Hp) (ρ : List Addr) (F H : Hp) (st : Sto) (n : Nat) (a : Addr) (xs : List V) (ds ys : List D) (vs : List V) (es : List D) (r : D) (Q : VK),
  g.K = X.K → Cfg g S ρ F st H → st[n]? = some (some (.lst ds)) → ρ[n]? = some a → H a = some (.lst xs) → DVs g S ρ xs ds → DVs g S ρ vs es → op ds es = some (ys, r) →
  (∀ v H', Cfg g S ρ F (st.set n (some (.lst ys))) H' → DV g S ρ v r → Q v H') →
  ∀ (pins : List (Addr × Obj)) (s : Shared) (σ : L2.St) (v : Value) (us : List Value), Inv X pins σ H s → RelV (.ref a) v → Vals vs us → wpAny (model X.prog X.w) X.A (call (.builtin id) (v :: us)) (EP X pins σ Q) X.xe s
theorem rCell_of {id : String} {op : OpC} (hK : Gok X g) (m : MtC X id op) : MtR X id (fun x xs H Q => ∃ d ds r ys n zs S ρ F st, Cfg g S ρ F st H ∧ DV g S ρ x d ∧ DVs g S ρ xs ds ∧ d = .cell n ∧ st[n]? = some (some (.lst zs)) ∧ op zs ds = some (ys, r) ∧
    ∀ v H', Cfg g S ρ F (st.set n (some (.lst ys))) H' → DV g S ρ v r → Q v H') := by
  rintro pins s σ H x xs v us Q I rx rs ⟨d, ds, r, ys, n, zs, S, ρ, F, st, c, dx, dxs, rfl, hn, ho, q⟩
  obtain ⟨a, ws, rfl, ha, h1, r1⟩ := c.cell dx hn
  exact m g S ρ F H st n a ws zs ys xs ds r Q hK.K c hn ha h1 r1 dxs ho q pins s σ v us I rx rs
theorem mAppend : MtC X "list.append" ocAppend := by
  intro g S ρ F H st n a xs ds ys vs es r Q hK c hn ha h1 r1 rv ho q pins s σ v us I rx rs
  unfold ocAppend at ho
  split at ho
  · split at ho
    · rename_i hz
      cases ho
      obtain ⟨w, rfl, d1⟩ := rv.one_
      exact mt_append pins s σ H _ _ v us Q I rx rs ⟨a, xs, w, rfl, rfl, h1, by rw [r1.length, sizeLine_eq]; exact hz, q _ _ (c.written hn ha (r1.append (.cons d1 .nil))) .non⟩
    · cases ho
  · cases ho
theorem mExtend : MtC X "list.extend" ocExtend := by
  intro g S ρ F H st n a xs ds ys vs es r Q hK c hn ha h1 r1 rv ho q pins s σ v us I rx rs
  unfold ocExtend at ho
  split at ho
  · split at ho
    · rename_i hz
      cases ho
      obtain ⟨w, rfl, d1⟩ := rv.one_
      obtain ⟨b, zs, rfl, h2, r2⟩ := d1.lst_
      exact mt_extend pins s σ H _ _ v us Q I rx rs ⟨a, b, xs, zs, rfl, rfl, h1, c.sub _ _ h2, by rw [r1.length, r2.length, sizeLine_eq]; exact hz, q _ _ (c.written hn ha (r1.append r2)) .non⟩
    · cases ho
  · cases ho
theorem mPop0 : MtC X "list.pop" ocPop0 := by
  intro g S ρ F H st n a xs ds ys vs es r Q hK c hn ha h1 r1 rv ho q pins s σ v us I rx rs
  unfold ocPop0 at ho
  split at ho
  · split at ho
    · rename_i y hy
      cases ho
      cases rv
      obtain ⟨w, hw, d1⟩ := r1.get hy
      exact mt_pop pins s σ H _ _ v us Q I rx rs ⟨a, xs, w, rfl, rfl, h1, by rw [r1.length]; exact hw, q _ _ (c.written hn ha r1.dropLast) d1⟩
    · cases ho
  · cases ho
theorem mPop1 : MtC X "list.pop" ocPop1 := by
  intro g S ρ F H st n a xs ds ys vs es r Q hK c hn ha h1 r1 rv ho q pins s σ v us I rx rs
  unfold ocPop1 at ho
  split at ho
  · split at ho
    · rename_i k hk
      split at ho
      · rename_i y hy
        split at ho
        · rename_i hz
          cases ho
          obtain ⟨w, rfl, d1⟩ := rv.one_
          obtain rfl := d1.int_
          obtain ⟨z, hz', d2⟩ := r1.get hy
          obtain ⟨e1, e2, e3, e4⟩ := ixN_seq hk
          exact mt_popAt pins s σ H _ _ v us Q I rx rs ⟨a, xs, _, k, z, rfl, rfl, h1, by omega, by omega, by rw [r1.length]; exact e1, hz', q _ _ (c.written hn ha (r1.eraseIdx k)) d2⟩
        · cases ho
      · cases ho
    · cases ho
  · cases ho
/-- what is asked at such a call -/
def rCell (g : Gx) (op : OpC) : V → List V → Hp → VK → Prop := fun x xs H Q => ∃ d ds r ys n zs S ρ F st, Cfg g S ρ F st H ∧ DV g S ρ x d ∧ DVs g S ρ xs ds ∧ d = .cell n ∧ st[n]? = some (some (.lst zs)) ∧ op zs ds = some (ys, r) ∧
    ∀ v H', Cfg g S ρ F (st.set n (some (.lst ys))) H' → DV g S ρ v r → Q v H'
theorem kCell_ok {op : OpC} {S F H : Hp} {ρ : List Addr} {st : Sto} {x : V} {xs : List V} {d : D} {ds : List D} {E : XK} {Q : VK} (c : Cfg g S ρ F st H) (dx : DV g S ρ x d) (dxs : DVs g S ρ xs ds) (h : RG g E F (fun S ρ => DV g S ρ) S ρ Q (kCell op d ds st)) : rCell g op x xs H Q := by
  unfold kCell at h
  split at h
  · rename_i n
    split at h
    · rename_i zs hzs
      split at h
      · rename_i ys r ho
        exact ⟨_, ds, r, ys, n, zs, S, ρ, F, st, c, dx, dxs, rfl, hzs, ho, fun v H' c' rv => h v S ρ H' (Le.refl _ _) c' rv⟩
      · exact h.elim
    · exact h.elim
  · exact h.elim
variable {o : Expr} {es : List Expr} {fo : EF} {fa : AF} {op : OpC} {apos cpos : Pos} {name : Str} {id : String}
theorem fe_cellM (hK : Gok X g) (m : MtC X id op) (slot : Slot "list" name id) (hty : typeOf (.builtin id) = pure (.type "method_descriptor")) (ho : PE X o (tF g W fo)) (ha : PA X (e :: es) (tFA g W fa))
    (hbase : attributeBase o name X.env (eval o X.env) = eval o X.env := by rfl)
    (hfew : ((backTo cpos (starEach (e :: es) X.env)).all (fun x => !x.1) && (backToKw cpos (keywordEach [] X.env)).all (fun x => x.1.isSome)
      && decide ((e :: es).length + ([] : List Keyword).length + (if ([] : List Keyword).isEmpty then 0 else 1) < 30)) = true := by rfl)
    (hline : (apos.endLine == cpos.line) = true := by rfl) (hs : starEach (e :: es) X.env = (false, eval e X.env) :: starEach es X.env := by rfl) (hplain : (backTo cpos (starEach es X.env)).any (·.1) = false := by rfl) :
    PE X (.Call (.Attribute o name apos) (e :: es) [] cpos) (tF g W (eCellM op fo fa)) := by
  refine (pe_bm PySem.F.plainAttrs_list slot hty (rCell_of hK m) ho ha hbase hfew hline hs hplain).imp ?_
  rintro σ H Q ⟨γ, S, ρ, F, st, hv, hc, hr⟩
  refine ⟨γ, S, ρ, F, st, hv, hc, (RG.bind_ (R := fun S ρ => DV g S ρ) (k := fun d st1 => if kLive d st1 then (fa γ st1).bind fun ds st2 => kCell op d ds st2 else .bad) hr).imp ?_⟩
  rintro x H1 ⟨S1, ρ1, st1, d, le1, c1, rx, h1⟩
  split at h1
  · rename_i hl
    refine ⟨?_, γ, S1, ρ1, F, st1, hv.mono le1, c1, (RG.bind_ (R := fun S ρ => DVs g S ρ) (k := fun ds st2 => kCell op d ds st2) h1).imp ?_⟩
    · unfold kLive at hl
      split at hl
      · split at hl
        · rename_i hds
          obtain ⟨a, xs, rfl, _, h2, _⟩ := c1.cell rx hds
          exact .inl ⟨rfl, xs, SqL.of h2⟩
        · cases hl
      · cases hl
    · rintro xs H2 ⟨S2, ρ2, st2, ds, le2, c2, rxs, h2⟩
      exact kCell_ok c2 (DV.mono le2 rx) rxs h2
  · exact h1.elim
theorem fe_cellM0 (hK : Gok X g) (m : MtC X id op) (slot : Slot "list" name id) (hty : typeOf (.builtin id) = pure (.type "method_descriptor")) (ho : PE X o (tF g W fo))
    (hbase : attributeBase o name X.env (eval o X.env) = eval o X.env := by rfl) (hline : (apos.endLine == cpos.line) = true := by rfl) :
    PE X (.Call (.Attribute o name apos) [] [] cpos) (tF g W (eCellM0 op fo)) := by
  refine (pe_bm0 PySem.F.plainAttrs_list slot hty (rCell_of hK m) ho hbase hline).imp ?_
  rintro σ H Q ⟨γ, S, ρ, F, st, hv, hc, hr⟩
  refine ⟨γ, S, ρ, F, st, hv, hc, (RG.bind_ (R := fun S ρ => DV g S ρ) (k := fun d st1 => kCell op d [] st1) hr).imp ?_⟩
  rintro x H1 ⟨S1, ρ1, st1, d, le1, c1, rx, h1⟩
  have h2 := kCell_ok c1 rx .nil h1
  obtain ⟨d0, ds0, r0, ys0, n0, zs0, S2, ρ2, F2, st2, c2, dx, dxs, e1, e2, _⟩ := (_root_.id h2)
  subst e1
  obtain ⟨a, xs, rfl, _, h3, _⟩ := c2.cell dx e2
  exact ⟨.inl ⟨rfl, xs, SqL.of h3⟩, h2⟩
theorem fe_append (hK : Gok X g) (ho : PE X o (tF g W fo)) (ha : PA X (e :: es) (tFA g W fa))
    (hbase : attributeBase o "append" X.env (eval o X.env) = eval o X.env := by rfl)
    (hfew : ((backTo cpos (starEach (e :: es) X.env)).all (fun x => !x.1) && (backToKw cpos (keywordEach [] X.env)).all (fun x => x.1.isSome)
      && decide ((e :: es).length + ([] : List Keyword).length + (if ([] : List Keyword).isEmpty then 0 else 1) < 30)) = true := by rfl)
    (hline : (apos.endLine == cpos.line) = true := by rfl) (hs : starEach (e :: es) X.env = (false, eval e X.env) :: starEach es X.env := by rfl) (hplain : (backTo cpos (starEach es X.env)).any (·.1) = false := by rfl) :
    PE X (.Call (.Attribute o "append" apos) (e :: es) [] cpos) (tF g W (eCellM ocAppend fo fa)) := fe_cellM hK mAppend PySem.F.slot_list_append PySem.F.type_list_append ho ha hbase hfew hline hs hplain
theorem fe_popAt (hK : Gok X g) (ho : PE X o (tF g W fo)) (ha : PA X (e :: es) (tFA g W fa))
    (hbase : attributeBase o "pop" X.env (eval o X.env) = eval o X.env := by rfl)
    (hfew : ((backTo cpos (starEach (e :: es) X.env)).all (fun x => !x.1) && (backToKw cpos (keywordEach [] X.env)).all (fun x => x.1.isSome)
      && decide ((e :: es).length + ([] : List Keyword).length + (if ([] : List Keyword).isEmpty then 0 else 1) < 30)) = true := by rfl)
    (hline : (apos.endLine == cpos.line) = true := by rfl) (hs : starEach (e :: es) X.env = (false, eval e X.env) :: starEach es X.env := by rfl) (hplain : (backTo cpos (starEach es X.env)).any (·.1) = false := by rfl) :
    PE X (.Call (.Attribute o "pop" apos) (e :: es) [] cpos) (tF g W (eCellM ocPop1 fo fa)) := fe_cellM hK mPop1 PySem.F.slot_list_pop PySem.F.type_list_pop ho ha hbase hfew hline hs hplain
/-- xs[i] = v -/
@[simp] def kSet (d i v : D) (st : Sto) : Option Sto := match d, i with
  | .cell n, .int k => match st[n]? with
    | some (some (.lst xs)) => match ixN xs.length k with
      | some j => some (st.set n (some (.lst (xs.set j v))))
      | none => none
    | _ => none
  | _, _ => none
@[simp] def sSet (fo fi fv : EF) : SF := fun γ st => (fv γ st).fl γ fun v st1 => (fo γ st1).fl γ fun d st2 => (fi γ st2).fl γ fun i st3 => match kSet d i v st3 with
  | some st4 => .nx γ st4
  | none => .bad
theorem fs_setix {v oe i : Expr} {fi fv : EF} {p1 pos : Pos} (hv : PE X v (tF g W fv)) (ho : PE X oe (tF g W fo)) (hi : PE X i (tF g W fi))
    (ha : ∀ v, assign (.Subscript oe i p1) X.env v = (do
      let ov ← holding [v] (eval oe X.env)
      let iv ← holding [v, ov] (eval i X.env)
      standAt p1
      holding [v, ov, iv] (setItem ov iv v)
      release [v, ov, iv] []) := by intro _; rfl)
    (hs : swapsWithSole [.Subscript oe i p1] v pos.line X.env = pure false := by rfl) (hw : swappedStores [.Subscript oe i p1] v X.env = pure none := by rfl)
    (h1 : (assignEach [.Subscript oe i p1] X.env).map (·.2) = [assign (.Subscript oe i p1) X.env] := by rfl) :
    PS X (.Assign [.Subscript oe i p1] v pos) (tS g W (sSet fo fi fv)) := by
  refine (ps_asg hv (pg_sub ho hi set_list ha) hs hw h1).imp ?_
  intro D' σ H h
  obtain ⟨γ, S, ρ, F, st, he, hc, hr⟩ := tG_fl (R := fun S ρ => DV g S ρ) (k := fun γ v st1 => (fo γ st1).fl γ fun d st2 => (fi γ st2).fl γ fun i st3 => match kSet d i v st3 with
    | some st4 => .nx γ st4
    | none => .bad) h
  refine ⟨γ, S, ρ, F, st, he, hc, hr.imp ?_⟩
  rintro y H1 ⟨γ, S1, ρ1, F, st1, vd, he1, c1, ry, h1⟩
  refine ⟨γ, S1, ρ1, F, st1, he1, c1, (FP.fl_ (R := fun S ρ => DV g S ρ) he1 h1).imp ?_⟩
  rintro o H2 ⟨S2, ρ2, st2, od, le2, c2, ro, he2, h2⟩
  refine ⟨γ, S2, ρ2, F, st2, he2, c2, (FP.fl_ (R := fun S ρ => DV g S ρ) he2 h2).imp ?_⟩
  rintro i' H3 ⟨S3, ρ3, st3, id', le3, c3, ri, he3, h3⟩
  have ro' := DV.mono le3 ro
  have ry' := DV.mono (le2.trans le3) ry
  dsimp only [kSet] at h3
  split at h3
  · rename_i st4 hk
    split at hk
    · split at hk
      · rename_i xs hxs
        split at hk
        · rename_i j hj
          cases hk
          cases ri
          obtain ⟨a, ws, rfl, ha, h4, r4⟩ := c3.cell ro' hxs
          refine ⟨a, ws, _, j, rfl, rfl, h4, by rw [r4.length]; exact hj, ?_⟩
          exact h3.nx_ he3 (c3.written hxs ha (r4.set j ry'))
        · cases hk
      · cases hk
    · cases hk
  · exact h3.elim
end

/-! ## defs -/
abbrev FF := List D → Sto → Res D
/-- a def, called where nothing is being shown: it comes to what the function of data says -/
structure DefG (P : Program) (w : World) (K : PySem.W.Frag) (mg : Str → Option Value) (base : Heap) (g : Gx) (k : Nat) (f : Addr) (fd : FuncData) (ps : List Str) (ff : FF) : Prop where
  run : ∀ (A : Around) (outer : List Env) (s : Shared) (H : Hp) (args : Args) (us : List Value) (vs : List V) (ds : List D) (S : Hp) (ρ : List Addr) (F : Hp) (st : Sto) (Q : VK) (E : XK), Room k A → A.guards = some [] → Env0 P w K mg base A outer s H → BindsTo s fd args (ps.zip us) →
    Vals vs us → vs.length = ps.length → Cfg g S ρ F st H → DVs g S ρ vs ds → RG g E F (fun S ρ => DV g S ρ) S ρ Q (ff ds st) → codeAny (model P w) A (.call (.ref f) args) (CR (L2.CX P w) outer P w H s Q E) s
/-- where a parameter's value comes from: the i-th positional one, the j-th keyword, a default -/
inductive Src where
  | p (i : Nat) | k (j : Nat) | d (u : Value) (v : V) (x : D)
def Src.U (us ws : List Value) : Src → Value
  | .p i => us.getD i .none
  | .k j => ws.getD j .none
  | .d u _ _ => u
def Src.W (vs zs : List V) : Src → V
  | .p i => vs.getD i .non
  | .k j => zs.getD j .non
  | .d _ v _ => v
@[simp] def Src.X (ds es : List D) : Src → D
  | .p i => ds.getD i .non
  | .k j => es.getD j .non
  | .d _ _ x => x
def Src.ok (g : Gx) (n m : Nat) : Src → Prop
  | .p i => i < n
  | .k j => j < m
  | .d u v x => RelV v u ∧ ∀ S ρ, DV g S ρ v x
/-- a form of call: n positional values, keywords named ks -/
structure CallA (K : PySem.W.Frag) (fd : FuncData) (ps : List Str) (g : Gx) (n : Nat) (ks : List Str) (arr : List Src) : Prop where
  to : ∀ (s : Shared) (us ws : List Value), K.In s.heap → us.length = n → ws.length = ks.length → BindsTo s fd ⟨us, ks.zip ws⟩ (ps.zip (arr.map (Src.U us ws)))
  len : arr.length = ps.length
  ok : ∀ x ∈ arr, x.ok g n ks.length
theorem getD_vals : ∀ {vs : List V} {us : List Value} {i : Nat}, Vals vs us → i < vs.length → RelV (vs.getD i .non) (us.getD i .none)
  | _, _, _, .nil, h => by simp at h
  | _, _, 0, .cons a b, _ => a
  | _, _, i + 1, .cons a b, h => by
    have z := getD_vals (i := i) b (by simpa using h)
    simpa using z
theorem getD_dvs {g : Gx} {S : Hp} {ρ : List Addr} : ∀ {vs : List V} {ds : List D} {i : Nat}, DVs g S ρ vs ds → i < vs.length → DV g S ρ (vs.getD i .non) (ds.getD i .non)
  | _, _, _, .nil, h => by simp at h
  | _, _, 0, .cons a b, _ => a
  | _, _, i + 1, .cons a b, h => by
    have z := getD_dvs (i := i) b (by simpa using h)
    simpa using z
theorem arr_vals {g : Gx} {n m : Nat} {vs zs : List V} {us ws : List Value} (r : Vals vs us) (rz : Vals zs ws) (l1 : vs.length = n) (l2 : zs.length = m) : ∀ {arr : List Src}, (∀ x ∈ arr, x.ok g n m) → Vals (arr.map (Src.W vs zs)) (arr.map (Src.U us ws))
  | [], _ => .nil
  | x :: arr, h => by
    refine .cons ?_ (arr_vals r rz l1 l2 fun y hy => h y (List.mem_cons_of_mem _ hy))
    have z := h x List.mem_cons_self
    cases x with
    | p i => exact getD_vals r (by rw [l1]; exact z)
    | k j => exact getD_vals rz (by rw [l2]; exact z)
    | d u v y => exact z.1
theorem arr_dvs {g : Gx} {S : Hp} {ρ : List Addr} {n m : Nat} {vs zs : List V} {ds es : List D} (r : DVs g S ρ vs ds) (rz : DVs g S ρ zs es) (l1 : vs.length = n) (l2 : zs.length = m) : ∀ {arr : List Src}, (∀ x ∈ arr, x.ok g n m) → DVs g S ρ (arr.map (Src.W vs zs)) (arr.map (Src.X ds es))
  | [], _ => .nil
  | x :: arr, h => by
    refine .cons ?_ (arr_dvs r rz l1 l2 fun y hy => h y (List.mem_cons_of_mem _ hy))
    have z := h x List.mem_cons_self
    cases x with
    | p i => exact getD_dvs r (by rw [l1]; exact z)
    | k j => exact getD_dvs rz (by rw [l2]; exact z)
    | d u v y => exact z.2 S ρ
/-! keywords -/
theorem _root_.L2.PK.imp {X : Cx} {es : List Keyword} {t t' : TA} (h : PK X es t) (i : ∀ σ H Q, t' σ H Q → t σ H Q) : PK X es t' := ⟨fun pos pins s σ H Q I q => h.run pos pins s σ H Q I (i _ _ _ q)⟩
section
variable {X : Cx} {g : Gx} {W : WX} {fa : EF} {fr : AF} {e : Expr} {kws : List Keyword} {nm : Option Str} {kpos : Pos}
theorem fk_nil : PK X [] (tFA g W aNil) := pk_nil.imp fun σ H Q ⟨_, S, ρ, _, _, _, hc, h⟩ => h.ok_ hc .nil
theorem fk_cons (ha : PE X e (tF g W fa)) (hr : PK X kws (tFA g W fr)) : PK X (⟨nm, e, kpos⟩ :: kws) (tFA g W (aCons fa fr)) := by
  refine (pk_cons ha hr).imp ?_
  rintro σ H Q ⟨γ, S, ρ, F, st, he, hc, hr⟩
  refine ⟨γ, S, ρ, F, st, he, hc, (RG.bind_ (R := fun S ρ => DV g S ρ) (k := fun d st1 => (fr γ st1).bind fun ds st2 => .ok (d :: ds) st2) hr).imp ?_⟩
  rintro x H1 ⟨S1, ρ1, st1, d, le1, c1, rx, h1⟩
  refine ⟨γ, S1, ρ1, F, st1, he.mono le1, c1, (RG.bind_ (R := fun S ρ => DVs g S ρ) (k := fun ds st2 => .ok (d :: ds) st2) h1).imp ?_⟩
  rintro xs H2 ⟨S2, ρ2, st2, ds, le2, c2, rxs, h2⟩
  exact h2.ok_ c2 (.cons (DV.mono le2 rx) rxs)
end
@[simp] def kFn (n : Nat) (f : FF) (ds : List D) (st : Sto) : Res D := if ds.length = n then f ds st else .bad
@[simp] def eCall (n : Nat) (f : FF) (fa : AF) : EF := fun γ st => (fa γ st).bind (kFn n f)
@[simp] def kArr (n m : Nat) (arr : List Src) (f : FF) (ds es : List D) (st : Sto) : Res D := if ds.length = n ∧ es.length = m then f (arr.map (Src.X ds es)) st else .bad
@[simp] def eCallA (n m : Nat) (arr : List Src) (f : FF) (fa fk : AF) : EF := fun γ st => (fa γ st).bind fun ds st1 => (fk γ st1).bind fun es st2 => kArr n m arr f ds es st2
section
variable {X : Cx} {g : Gx} {W : WX} {pos p : Pos} {x : Str} {e : Expr} {es : List Expr} {fa fk : AF} {k k' n m : Nat} {f : Addr} {fd : FuncData} {ps ks : List Str} {ff : FF} {arr : List Src} {kws : List Keyword}
theorem run_def {pins : List (Addr × Obj)} {σ : L2.St} {H : Hp} {s : Shared} {Q : VK} {S : Hp} {ρ : List Addr} {F : Hp} {st : Sto} {us us' : List Value} {kw : List (Str × Value)} {vs : List V} {ds : List D} (tk : Takes X W) (G : DefG X.prog X.w X.K X.mg X.base g k f fd ps ff) (hr : Room k' X.A) (hk : k ≤ k') (hgd : X.A.guards = some [])
    (I : Inv X pins σ H s) (hb : BindsTo s fd ⟨us', kw⟩ (ps.zip us)) (r : Vals vs us) (hl : vs.length = ps.length) (hc : Cfg g S ρ F st H) (rd : DVs g S ρ vs ds) (h : RG g (fun cls dd H => W cls dd σ H) F (fun S ρ => DV g S ρ) S ρ Q (ff ds st)) :
    wpAny (model X.prog X.w) X.A (call (.ref f) us' kw) (EP X pins σ Q) X.xe s := by
  refine wpAny_call (codeAny_mono (G.run X.A X.stack s H ⟨us', kw⟩ us vs ds S ρ F st Q (fun cls dd H => W cls dd σ H) (hr.mono hk) hgd I.env0 hb r hl hc rd h) fun r s' hq => ?_)
  cases r with
  | error e => exact passAt tk σ pins H s e s' I hq
  | ok fl =>
    cases fl with
    | ret u => exact I.after hq
    | next => exact False.elim hq
    | brk => exact False.elim hq
    | cont => exact False.elim hq
theorem fe_call (tk : Takes X W) (G : DefG X.prog X.w X.K X.mg X.base g k f fd ps ff) (hr : Room k' X.A) (hk : k ≤ k') (hgd : X.A.guards = some []) (hm : X.mg x = some (.ref f)) (kp : PySem.W.keepIn X.K (.ref f) = true) (hb : Binds X.K fd ps [])
    (ha : PA X (e :: es) (tFA g W fa)) (hg : Gl X x := by rfl) (hdb : (x == ("__debug__" : Str)) = false := by decide) (he : starEach (e :: es) X.env = (false, eval e X.env) :: starEach es X.env := by rfl) (hpl : (backTo pos (starEach es X.env)).any (·.1) = false := by rfl) :
    PE X (.Call (.Name x p) (e :: es) [] pos) (tF g W (eCall ps.length ff fa)) := by
  refine ⟨fun pins s σ H Q I h => ?_⟩
  obtain ⟨γ, S, ρ, F, st, hv, hc, hres⟩ := h
  refine wpAny_Call_Name_kw (ld_glob I hg hm ?_ hdb)
  have ht : tFA g W fa σ H (fun xs H1 => ∃ S1 ρ1 st1 ds, Le S S1 ρ ρ1 ∧ Cfg g S1 ρ1 F st1 H1 ∧ DVs g S1 ρ1 xs ds ∧ RG g (fun cls dd H => W cls dd σ H) F (fun S ρ => DV g S ρ) S1 ρ1 Q (kFn ps.length ff ds st1)) := ⟨γ, S, ρ, F, st, hv, hc, RG.bind_ (R := fun S ρ => DVs g S ρ) (k := kFn ps.length ff) hres⟩
  refine PySem.W.callWith_K (h₀ := X.base) I.ok.mod.kin kp (thn (ha.run pos pins s σ H _ I ht) fun us s1 ⟨vs, H1, I1, r, S1, ρ1, st1, ds, le1, c1, rd, h1⟩ => ⟨I1.kIn, ?_⟩) he hpl
  dsimp only [kFn] at h1
  split at h1
  · rename_i hl
    have l1 : vs.length = ps.length := by rw [rd.length]; exact hl
    refine run_def (us := us) tk G hr hk hgd I1 ?_ r l1 c1 rd h1
    have z := hb s1 us I1.kIn (by rw [List.append_nil, ← r.length]; exact l1)
    rw [List.append_nil] at z
    exact z
  · exact h1.elim
theorem fe_callA (tk : Takes X W) (G : DefG X.prog X.w X.K X.mg X.base g k f fd ps ff) (hr : Room k' X.A) (hk : k ≤ k') (hgd : X.A.guards = some []) (hm : X.mg x = some (.ref f)) (kp : PySem.W.keepIn X.K (.ref f) = true) (hb : CallA X.K fd ps g n ks arr)
    (ha : PA X (e :: es) (tFA g W fa)) (hkw : PK X kws (tFA g W fk)) (hg : Gl X x := by rfl) (hdb : (x == ("__debug__" : Str)) = false := by decide) (hall : (backToKw pos (keywordEach kws X.env)).all (·.1.isSome) = true := by rfl) (hks : (backToKw pos (keywordEach kws X.env)).filterMap (·.1) = ks := by rfl)
    (he : starEach (e :: es) X.env = (false, eval e X.env) :: starEach es X.env := by rfl) (hpl : ((backTo pos (starEach (e :: es) X.env)).any (·.1) || (backToKw pos (keywordEach kws X.env)).any (·.1.isNone)) = false := by rfl) :
    PE X (.Call (.Name x p) (e :: es) kws pos) (tF g W (eCallA n ks.length arr ff fa fk)) := by
  refine ⟨fun pins s σ H Q I h => ?_⟩
  obtain ⟨γ, S, ρ, F, st, hv, hc, hres⟩ := h
  refine wpAny_Call_Name_kw (ld_glob I hg hm ?_ hdb)
  have ht : tFA g W fa σ H (fun xs H1 => ∃ S1 ρ1 st1 ds, Le S S1 ρ ρ1 ∧ Cfg g S1 ρ1 F st1 H1 ∧ DVs g S1 ρ1 xs ds ∧ RG g (fun cls dd H => W cls dd σ H) F (fun S ρ => DV g S ρ) S1 ρ1 Q ((fk γ st1).bind fun es st2 => kArr n ks.length arr ff ds es st2)) :=
    ⟨γ, S, ρ, F, st, hv, hc, RG.bind_ (R := fun S ρ => DVs g S ρ) (k := fun ds st1 => (fk γ st1).bind fun es st2 => kArr n ks.length arr ff ds es st2) hres⟩
  refine PySem.W.callWith_KW (h₀ := X.base) I.ok.mod.kin kp hall (thn (ha.run pos pins s σ H _ I ht) fun us s1 ⟨vs, H1, I1, r, S1, ρ1, st1, ds, le1, c1, rd, h1⟩ => ?_) hpl he
  have ht2 : tFA g W fk σ H1 (fun zs H2 => ∃ S2 ρ2 st2 es, Le S1 S2 ρ1 ρ2 ∧ Cfg g S2 ρ2 F st2 H2 ∧ DVs g S2 ρ2 zs es ∧ RG g (fun cls dd H => W cls dd σ H) F (fun S ρ => DV g S ρ) S2 ρ2 Q (kArr n ks.length arr ff ds es st2)) :=
    ⟨γ, S1, ρ1, F, st1, hv.mono le1, c1, RG.bind_ (R := fun S ρ => DVs g S ρ) (k := fun es st2 => kArr n ks.length arr ff ds es st2) h1⟩
  refine thn (hkw.run pos pins s1 σ H1 _ I1 ht2) fun ws s2 ⟨zs, H2, I2, rz, S2, ρ2, st2, es', le2, c2, re, h2⟩ => ⟨I2.kIn, ?_⟩
  rw [hks]
  dsimp only [kArr] at h2
  split at h2
  · rename_i hl
    have l1 : vs.length = n := by rw [rd.length]; exact hl.1
    have l2 : zs.length = ks.length := by rw [re.length]; exact hl.2
    exact run_def (us := arr.map (Src.U us ws)) tk G hr hk hgd I2 (hb.to s2 us ws I2.kIn (r.length.symm.trans l1) (rz.length.symm.trans l2)) (arr_vals r rz l1 l2 hb.ok) (by rw [List.length_map, hb.len]) c2 (arr_dvs (rd.mono le2) re l1 l2 hb.ok) h2
  · exact h2.elim
theorem fe_callK (tk : Takes X W) (G : DefG X.prog X.w X.K X.mg X.base g k f fd ps ff) (hr : Room k' X.A) (hk : k ≤ k') (hgd : X.A.guards = some []) (hm : X.mg x = some (.ref f)) (kp : PySem.W.keepIn X.K (.ref f) = true) (hb : CallA X.K fd ps g 0 ks arr)
    (hkw : PK X kws (tFA g W fk)) (hg : Gl X x := by rfl) (hdb : (x == ("__debug__" : Str)) = false := by decide) (hall : (backToKw pos (keywordEach kws X.env)).all (·.1.isSome) = true := by rfl) (hks : (backToKw pos (keywordEach kws X.env)).filterMap (·.1) = ks := by rfl)
    (hpl : ((backTo pos (starEach [] X.env)).any (·.1) || (backToKw pos (keywordEach kws X.env)).any (·.1.isNone)) = false := by rfl) :
    PE X (.Call (.Name x p) [] kws pos) (tF g W (eCallA 0 ks.length arr ff aNil fk)) := by
  refine ⟨fun pins s σ H Q I h => ?_⟩
  obtain ⟨γ, S, ρ, F, st, hv, hc, hres⟩ := h
  refine wpAny_Call_Name_kw (ld_glob I hg hm ?_ hdb)
  have hres' : RG g (fun cls dd H => W cls dd σ H) F (fun S ρ => DV g S ρ) S ρ Q ((fk γ st).bind fun es st2 => kArr 0 ks.length arr ff [] es st2) := hres
  have ht2 : tFA g W fk σ H (fun zs H2 => ∃ S2 ρ2 st2 es, Le S S2 ρ ρ2 ∧ Cfg g S2 ρ2 F st2 H2 ∧ DVs g S2 ρ2 zs es ∧ RG g (fun cls dd H => W cls dd σ H) F (fun S ρ => DV g S ρ) S2 ρ2 Q (kArr 0 ks.length arr ff [] es st2)) :=
    ⟨γ, S, ρ, F, st, hv, hc, RG.bind_ (R := fun S ρ => DVs g S ρ) (k := fun es st2 => kArr 0 ks.length arr ff [] es st2) hres'⟩
  refine PySem.W.callWith_KW0 (h₀ := X.base) I.ok.mod.kin kp hall (thn (hkw.run pos pins s σ H _ I ht2) fun ws s2 ⟨zs, H2, I2, rz, S2, ρ2, st2, es', le2, c2, re, h2⟩ => ⟨I2.kIn, ?_⟩) hpl
  rw [hks]
  dsimp only [kArr] at h2
  split at h2
  · rename_i hl
    have l2 : zs.length = ks.length := by rw [re.length]; exact hl.2
    exact run_def (us := arr.map (Src.U [] ws)) tk G hr hk hgd I2 (hb.to s2 [] ws I2.kIn rfl (rz.length.symm.trans l2)) (arr_vals .nil rz rfl l2 hb.ok) (by rw [List.length_map, hb.len]) c2 (arr_dvs .nil re rfl l2 hb.ok) h2
  · exact h2.elim
/-- a def's body as a function of data -/
@[simp] def finish : Fl → Res D
  | .nx _ st => .ok .non st
  | .rt d st => .ok d st
  | .ex c fs _ st => .ex c fs st
  | _ => .bad
@[simp] def startG (sz : Nat) (ds : List D) : Gam := ds.map some ++ List.replicate (sz - ds.length) none
@[simp] def bodyF (sz : Nat) (b : SF) : FF := fun ds st => finish (b (startG sz ds) st)
theorem start_env {g : Gx} {S : Hp} {ρ : List Addr} {N : List Str} {vs : List V} {ds : List D} (r : DVs g S ρ vs ds) : EnvR g S ρ (L2.start N vs) (startG N.length ds) := by
  unfold L2.start startG
  have hl := r.length
  refine ⟨by simp [hl], fun i d h => ?_⟩
  by_cases hi : i < ds.length
  · rw [List.getElem?_append_left (by simpa using hi)] at h
    rw [List.getElem?_map] at h
    cases q : ds[i]? with
    | none => rw [q] at h; cases h
    | some e =>
      rw [q] at h
      cases h
      obtain ⟨v, h1, h2⟩ := r.get q
      exact ⟨v, by rw [List.getElem?_append_left (by simp; omega), List.getElem?_map, h1]; rfl, h2⟩
  · rw [List.getElem?_append_right (by simpa using Nat.le_of_not_lt hi)] at h
    have := List.getElem?_replicate (n := N.length - ds.length) (a := (none : Option D)) (i := i - (ds.map some).length)
    rw [this] at h
    split at h <;> cases h
/-- from a body's end to the def's -/
theorem fin_of {S : Hp} {ρ : List Addr} {F : Hp} {E : XK} {Q : VK} {fl : Fl} (h : RG g E F (fun S ρ => DV g S ρ) S ρ Q (finish fl)) : FP g (fun cls d _ H => E cls d H) F { nx := fun _ H' => Q .non H', rt := Q } S ρ fl := by
  cases fl with
  | nx γ1 st1 => exact fun σ1 S1 ρ1 H1 le he1 c1 => h .non S1 ρ1 H1 le c1 .non
  | rt d st1 => exact fun v S1 ρ1 H1 le c1 rv => h v S1 ρ1 H1 le c1 rv
  | bk γ1 st1 => exact h.elim
  | ct γ1 st1 => exact h.elim
  | ex c fs γ1 st1 => exact fun σ1 cls dd S1 ρ1 H1 le he1 cc x => h cls dd S1 ρ1 H1 le cc x
  | bad => exact h.elim
end
/-- a def as it stands: its text, its defaults dV, what is known of its code object -/
def FunA (K : PySem.W.Frag) (x : Str) (st : Stmt) (f : Addr) (fd : FuncData) (dV : Value) (C : Value → Prop) : Prop :=
  ∃ (oc : Value) (od : Option Addr) (kV doc pm : Value) (an : Option Addr) (cdv ct : Value) (osl : Array (Option Value)),
    fd = PySem.W.fnOf x x (defArgs st) (defBody st) (defScope st) dV kV doc pm an cdv ct ∧ K.lookup f = some ⟨oc, od, .func fd, osl⟩ ∧ PySem.W.codeIn K cdv x = true ∧ C cdv
section
variable {P : Program} {w : World} {K : PySem.W.Frag} {mg : Str → Option Value} {base : Heap} {g : Gx}
theorem FunA.binds {x : Str} {st : Stmt} {f : Addr} {fd : FuncData} {C : Value → Prop} {ps : List Str} (F : FunA K x st f fd .none C)
    (h : ∀ (kV doc pm : Value) (an : Option Addr) (cdv ct : Value) (us : List Value), us.length = ps.length → bindArgs (PySem.W.fnOf x x (defArgs st) (defBody st) (defScope st) .none kV doc pm an cdv ct) ⟨us, []⟩ = pure (ps.zip us)) : Binds K fd ps [] := by
  obtain ⟨oc, od, kV, doc, pm, an, cdv, ct, osl, rfl, lk, hcd, _⟩ := F
  exact .all (h kV doc pm an cdv ct)
theorem FunA.form {x : Str} {st : Stmt} {f : Addr} {fd : FuncData} {dV : Value} {C : Value → Prop} {ps ks : List Str} {n : Nat} {arr : List Src} (F : FunA K x st f fd dV C)
    (h : ∀ (kV doc pm : Value) (an : Option Addr) (cdv ct : Value) (s : Shared) (us ws : List Value), K.In s.heap → us.length = n → ws.length = ks.length → BindsTo s (PySem.W.fnOf x x (defArgs st) (defBody st) (defScope st) dV kV doc pm an cdv ct) ⟨us, ks.zip ws⟩ (ps.zip (arr.map (Src.U us ws))))
    (hl : arr.length = ps.length) (ok : ∀ x ∈ arr, x.ok g n ks.length) : CallA K fd ps g n ks arr := by
  obtain ⟨oc, od, kV, doc, pm, an, cdv, ct, osl, rfl, lk, hcd, _⟩ := F
  exact ⟨fun s us ws X h1 h2 => h kV doc pm an cdv ct s us ws X h1 h2, hl, ok⟩
/-- THE RULE for a def -/
theorem fn_ok {x : Str} {st : Stmt} {f : Addr} {fd : FuncData} {dV : Value} {C : Value → Prop} {N ps : List Str} {k : Nat} {b : SF} (F : FunA K x st f fd dV C) (Sc : FnScope N ps (defScope st))
    (hbody : ∀ (cdv : Value) (A : Around) (outer : List Env) (s : Shared) (H : Hp) (E : XK), C cdv → Room k (A.deeper (envOfC x (defScope st) s.heap.objs.size f cdv)) → A.guards = some [] →
      PSs (cxOf (L2.CX P w) P w K mg base N x (defScope st) f cdv A outer s H E) (defBody st) (tS g (fun cls d _ H => E cls d H) b)) :
    DefG P w K mg base g (k + 1) f fd ps (bodyF N.length b) := by
  obtain ⟨oc, od, kV, doc, pm, an, cdv, ct, osl, rfl, lk, hcd, hC⟩ := F
  refine ⟨fun A outer s H args us vs ds S ρ Fr sto Q E hr hgd e0 hb r hl hc rd hq => run_ofS lk hcd Sc hr e0 hb r hl fun hr' => ⟨_, hbody cdv A outer s H E hC hr' hgd, ?_⟩⟩
  exact ⟨startG N.length ds, S, ρ, Fr, sto, start_env rd, hc, fin_of hq⟩
theorem fn_ok2 {x : Str} {st : Stmt} {f : Addr} {fd : FuncData} {dV : Value} {C : Value → Prop} {N ps : List Str} {k : Nat} {b : SF} {ff : FF} (F : FunA K x st f fd dV C) (Sc : FnScope N ps (defScope st)) (e : bodyF N.length b = ff)
    (hbody : ∀ (cdv : Value) (A : Around) (outer : List Env) (s : Shared) (H : Hp) (E : XK), C cdv → Room k (A.deeper (envOfC x (defScope st) s.heap.objs.size f cdv)) → A.guards = some [] →
      PSs (cxOf (L2.CX P w) P w K mg base N x (defScope st) f cdv A outer s H E) (defBody st) (tS g (fun cls d _ H => E cls d H) b)) :
    DefG P w K mg base g (k + 1) f fd ps ff := e ▸ fn_ok F Sc hbody
end
end FL
end
section
set_option Elab.async false
set_option linter.all false
set_option maxRecDepth 100000
set_option maxHeartbeats 2000000
/-! # exceptions of one's own: super().__init__(x ..); self.x = x .. -/
namespace PySem
namespace FLX
open PySem.W PySem.Calls PyProof.Rows PySem.HandSPX
/-- super().__init__(es) -/
def supS (es : List Expr) (p1 p2 p3 p4 p5 : Pos) : Stmt := .Expr (.Call (.Attribute (.Call (.Name "super" p1) [] [] p2) "__init__" p3) es [] p4) p5
/-- self.x = x -/
def setS (x : Str) (q1 q2 q3 q4 : Pos) : Stmt := .Assign [.Attribute (.Name "self" q1) x q2] (.Name x q3) q4
def argN (x : Str) (p : Pos) : Arg := { arg := x, annotation := none, pos := p }
def args1 (x : Str) (p1 p2 : Pos) : Arguments := { posonlyargs := [], args := [argN "self" p1, argN x p2], vararg := none, kwonlyargs := [], kw_defaults := [], kwarg := none, defaults := [] }
def args2 (x y : Str) (p1 p2 p3 : Pos) : Arguments := { posonlyargs := [], args := [argN "self" p1, argN x p2, argN y p3], vararg := none, kwonlyargs := [], kw_defaults := [], kwarg := none, defaults := [] }
def sco1 (x : Str) : Scope := { kind := .function, names := [(PySem.Str.ofString "self", .local), (x, .local), (PySem.Str.ofString "__class__", .free), (PySem.Str.ofString "super", .globalImplicit)], isGenerator := false, isCoroutine := false, more := [] }
def sco2 (x y : Str) : Scope := { kind := .function, names := [(PySem.Str.ofString "self", .local), (x, .local), (y, .local), (PySem.Str.ofString "__class__", .free), (PySem.Str.ofString "super", .globalImplicit)], isGenerator := false, isCoroutine := false, more := [] }

/-- how the machine reads the call -/
def CallE (env : Env) (es : List Expr) (p1 p2 p3 p4 : Pos) (pl : Sem Bool) : Prop := eval (.Call (.Attribute (.Call (.Name "super" p1) [] [] p2) "__init__" p3) es [] p4) env = (do
      let ov ← attributeBase (.Call (.Name "super" p1) [] [] p2) "__init__" env (eval (.Call (.Name "super" p1) [] [] p2) env)
      standAt p3.atName
      let (f, first) ← holding [ov] (getMethod ov "__init__" pl)
      callWith p4 f first (backTo p4 (starEach es env)) [])
/-- what the written part says of the class at C, whose __init__ is D's, at fI -/
structure SupTxt (prog : Program) (K : Frag) (C D fI cda cc : Addr) : Prop where
  cls : ∃ nm q N bs bm sn sub ab col dd k0 k1 k2 k3 k5, K.lookup C = some (excClassObj nm q C N bs bm true sn sub ab col dd k0 k1 k2 k3 k5 "ValueError.__new__") ∧ refsVE bm = true
  sa : findIn K (.ref C) "__setattr__" = some (some (.builtin "object.__setattr__"))
  iC : findIn K (.ref C) "__init__" = some (some (.ref fI))
  tC : typeIn K (.ref fI) = some (.type "function")
  kC : keepIn K (.ref C) = true
  exC : subIn K (.ref C) (.type "BaseException") = some true
  veC : subIn K (.ref C) (.type "ValueError") = some true
  tyC : typeIn K (.ref C) = some (.type "type")
  code : ∃ ccl cdd vs ccs file tf, K.lookup cda = some ⟨ccl, cdd, .fields vs, ccs⟩ ∧ vs[2]? = some (.str file tf) ∧ ((prog.main.file : Str) == file) = true
  cell : ∃ cl cld csl, K.lookup cc = some ⟨cl, cld, .cell (some (.ref D)), csl⟩
  clsD : ∃ cdD, clsIn K D = some cdD
  mroD : mroIn K C (.ref D) = some true
  sup : ks_superIn K C D "__init__" = some (some (.builtin "ValueError.__init__"))
  opq : nsIn K cStatics "thirdparty.any" = some none
  noS : nsIn K mainGlobals "super" = some none
  htop : (prog.main.scope.names.lookup ("super" : Str)).isSome = false

section
variable {prog : Program} {w : World} {A : Around} {E : Value → Shared → Prop} {K : Frag} {C D fI cda cc : Addr} {mg mb : Str → Option Value}
/-- what stands while __init__ runs: the globals, the built-ins, the frame's names -/
structure SupAt (h : Heap) (mg mb : Str → Option Value) (L : Addr) (m : Str → Option Value) (x C t0 : Addr) : Prop where
  g : h.Ns mainGlobals mg
  b : h.Ns builtinsNs mb
  l : h.Ns L m
  x : h.get? x = some (excO C t0)
theorem SupAt.keeps {h h' : Heap} {L x t0 : Addr} {m : Str → Option Value} (S : SupAt h mg mb L m x C t0) (k : ∀ b o, h.get? b = some o → h'.get? b = some o) : SupAt h' mg mb L m x C t0 :=
  ⟨S.g.keeps k, S.b.keeps k, S.l.keeps k, k _ _ S.x⟩
theorem sup_call {h : Heap} {g : Array GenState} {d : Drawn} {t : Nat} {os : OsState} {u e t0 : Addr} {rest : List Value} {Q : Value → Shared → Prop} (T : SupTxt prog K C D fI cda cc) (X : K.In h) (hu : h.get? u = some (kxs_mw "ValueError.__init__" e)) (he : h.get? e = some (excO C t0)) (hz : rest.length ≤ sizeLine)
    (hq : ∀ h' t1, (∀ b o, b ≠ e → h.get? b = some o → h'.get? b = some o) → h'.get? e = some (excO C t1) → Q .none ⟨h', g, d, t, os⟩) :
    wpAny (model prog w) A (call (.ref u) rest) Q E ⟨h, g, d, t, os⟩ := by
  obtain ⟨nm, q, N, bs, bm, sn, sub, ab, col, dd, k0, k1, k2, k3, k5, hC, hbm⟩ := T.cls
  refine wpAny_call (codeAny_of_tree ?_)
  show wpAny _ A.in1 (callAny (.ref u) ⟨rest, []⟩) _ _ _
  simp only [callAny]
  refine wpAny_bind (wpAny_load hu ?_)
  simp only [kxs_mw, show (Value.type "method-wrapper" == Value.type "method" || Value.type "method-wrapper" == Value.type "builtin_function_or_method" || Value.type "method-wrapper" == Value.type "method-wrapper") = true by decide, if_true]
  refine KFB.if_so (by decide) ?_
  refine wpAny_bind (check_bound_init F.excBase_ValueError.toExcCallFacts (X _ _ hC) he rfl ?_)
  refine wpAny_bind (wpAny_pure (wpAny_pure ?_))
  refine ⟨plainId_quiet F.excBase_ValueError.init.plain _, codeAny_builtin F.excBase_ValueError.initEntry ?_⟩
  rw [Around.under_plainId F.excBase_ValueError.init.plain _]
  exact exc_init_tree (cls := .ref C) (t0 := t0) (dv := none) (c2 := .none) (c3 := .none) (b4 := .bool false) he hz fun h' k e' _ => hq h' _ k e'

/-- super().__init__(es), es read to us -/
theorem sup_stmt {s : Shared} {q : Str} {scope : Scope} {L x t0 : Addr} {m : Str → Option Value} {body : List Stmt} {e0 : Expr} {er : List Expr} {p1 p2 p3 p4 p5 : Pos} {fd : FuncData} {ar : Arg} {oc : Value} {od : Option Addr} {osl : Array (Option Value)} {us : List Value} {pl : Sem Bool} {Q : Flow → Shared → Prop}
    (T : SupTxt prog K C D fI cda cc) (X : K.In s.heap) (S : SupAt s.heap mg mb L m x C t0)
    (hf : K.lookup fI = some ⟨oc, od, .func fd, osl⟩) (hp : (fd.params.posonlyargs ++ fd.params.args).head? = some ar) (hv : m ar.arg = some (.ref x)) (hS : mg "super" = none) (hB : mb "super" = some (.type "super"))
    (hks : scope.names.lookup ("super" : Str) = some .globalImplicit) (hkc : scope.names.lookup ("__class__" : Str) = some .free) (hka : scope.names.lookup ar.arg = some .local) (hk : scope.kind = .function)
    (hz : us.length ≤ sizeLine)
    (hargs : ∀ (h' : Heap) (tk : Nat) (P : List Value → Shared → Prop), (∀ b o, s.heap.get? b = some o → h'.get? b = some o) → P us { s with heap := h', toks := tk } → wpAny (model prog w) A (spliced (backTo p4 (starEach (e0 :: er) (ksEnv q scope L fI (.ref cda) cc)))) P E { s with heap := h', toks := tk })
    (hst : starEach (e0 :: er) (ksEnv q scope L fI (.ref cda) cc) = (false, eval e0 (ksEnv q scope L fI (.ref cda) cc)) :: starEach er (ksEnv q scope L fI (.ref cda) cc)) (hpl : (backTo p4 (starEach er (ksEnv q scope L fI (.ref cda) cc))).any (·.1) = false)
    (hq : ∀ h' t1 tk, (∀ b o, b ≠ x → s.heap.get? b = some o → h'.get? b = some o) → h'.get? x = some (excO C t1) → Q .next { s with heap := h', toks := tk })
    (hce : CallE (ksEnv q scope L fI (.ref cda) cc) (e0 :: er) p1 p2 p3 p4 pl)
    (hi : interactive (ksEnv q scope L fI (.ref cda) cc) = false := by rfl)
    (hs : swapsWith (.Call (.Attribute (.Call (.Name "super" p1) [] [] p2) "__init__" p3) (e0 :: er) [] p4) none p5.line (ksEnv q scope L fI (.ref cda) cc) = pure false := by rfl) :
    _root_.PySem.wpAt (model prog w) A (.func body (ksEnv q scope L fI (.ref cda) cc)) (exec (supS (e0 :: er) p1 p2 p3 p4 p5) (ksEnv q scope L fI (.ref cda) cc)) Q E s := by
  obtain ⟨ccl, cdd, vs, ccs, file, tf, hcode, hvs, hfile⟩ := T.code
  obtain ⟨cl, cld, csl, hcell⟩ := T.cell
  obtain ⟨cdD, hD⟩ := T.clsD
  obtain ⟨oD, hD1, hD2⟩ : ∃ oD, s.heap.get? D = some oD ∧ oD.data = .cls cdD := by
    unfold clsIn at hD
    split at hD
    · rename_i c d cd' sl ho
      cases hD
      exact ⟨_, X _ _ ho, rfl⟩
    · cases hD
  obtain ⟨nm, qn, N, bs, bm, sn, sub, ab, col, dd, k0, k1, k2, k3, k5, hC, hbm⟩ := T.cls
  have I : InstAt s.heap x (excO C t0) C none := ⟨S.x, rfl, rfl, trivial⟩
  obtain ⟨hh, g, d, t, os⟩ := s
  refine ks_wpAt_Expr_any (ks_wpAt_MethodCall ?_ hce) hi hs
  refine ks_wpAt_super_base (env := ksEnv q scope L fI (.ref cda) cc) hks hkc rfl rfl (X _ _ hf) rfl hp rfl (X _ _ hcode) rfl hvs hfile T.htop ?_
  refine ks_loadName_global hk hks (loadGlobal_builtin (env := ksEnv q scope L fI (.ref cda) cc) S.g hS S.b hB ⟨rfl, ?_⟩)
  refine wpAny_loadName_free hk hkc rfl ⟨_, X _ _ hcell, rfl⟩ ?_
  refine wpAny_loadName_local hk hka S.l hv ?_
  refine ks_wpAny_isType_cls hD1 hD2 ⟨rfl, ?_⟩
  refine ks_wpAny_call_super hD1 hD2 I.at_ I.cls (fun c e => ?_) (looks_mroIn X T.mroD) (fun h' e k => ?_)
  · have := I.no
    unfold notCls at this
    rw [e] at this
    exact Bool.noConfusion this
  have X' := X.keeps k
  have I' : InstAt h' x (excO C t0) C none := ⟨k _ _ S.x, rfl, rfl, trivial⟩
  have hcC : clsIn K C = some { name := nm, bases := bs, mro := .ref C :: bm, ns := N, qualname := qn, hasDict := true, slotNames := sn, subclasses := sub, abstract := ab, collection := col, hasDel := false } := by unfold clsIn; rw [hC] <;> rfl
  have hm := T.sup
  unfold ks_superIn at hm
  rw [hcC] at hm
  refine kxs_getMethod kxs_ValueError e (looks_opaque X' T.opq) (l₀ := .ref C :: bm) (fun A Q E s k q => wpAny_bind ((looks_clsIn X' hcC) A _ E s k (wpAny_pure q))) rfl X' hm (I'.type.andThen (looks_subIn X' T.veC)) (ks_ne X' I' hcC) rfl ?_
  have k2 : ∀ b o, hh.get? b = some o → (h'.push (kxs_mw "ValueError.__init__" x)).get? b = some o := fun b o z => Heap.get?_push_of_some _ (k b o z)
  show wpAny _ _ (callWith p4 (.ref h'.objs.size) [] (backTo p4 (starEach (e0 :: er) (ksEnv q scope L fI (.ref cda) cc))) []) _ _ _
  rw [hst] at hargs ⊢
  refine kxs_callWith (i := "ValueError.__init__") (x := x) ?_ ?_
  · show (false || (backTo p4 (starEach er _)).any (·.1)) = false
    rw [hpl]
    rfl
  refine evalArgs_plain ?_
  refine hargs _ (t + 1) _ k2 ?_
  refine ⟨Heap.get?_push_at rfl rfl, ?_⟩
  refine sup_call T (X.keeps k2) (Heap.get?_push_at rfl rfl) (k2 _ _ S.x) hz fun h3 t1 k3 e3 => hq h3 t1 _ (fun b o hb z => k3 b o hb (k2 b o z)) e3
end

/-- what __init__ leaves of a fresh exception at x -/
structure InitEnd (h h' : Heap) (x C dx t1 : Addr) (mA : Str → Option Value) : Prop where
  keep : ∀ b o, b ≠ x → h.get? b = some o → h'.get? b = some o
  obj : h'.get? x = some { cls := .ref C, dict := some dx, data := .fields #[.ref t1, .none, .none, .none, .bool false, .none] }
  dbig : h.objs.size ≤ dx
  dne : dx ≠ x
  ns : h'.Ns1 dx mA
/-- __init__ of the class at C, called with us: the attributes are mA's -/
def InitOk (prog : Program) (w : World) (K : Frag) (mg mb : Str → Option Value) (C fI : Addr) (us : List Value) (mA : Str → Option Value) : Prop :=
  ∀ (A : Around) (R : Result → Shared → Prop) (s : Shared) (x t0 : Addr), K.In s.heap → s.heap.NoLimit → s.heap.Ns mainGlobals mg → s.heap.Ns builtinsNs mb → s.heap.get? x = some (excO C t0) → K.lookup x = none → A.depth < recursionLimit →
    (∀ h' tk dx t1, InitEnd s.heap h' x C dx t1 mA → R (.ok (.ret .none)) { s with heap := h', toks := tk }) → codeAny (model prog w) A (.call (.ref fI) ⟨.ref x :: us, []⟩) R s
/-- the text of __init__(self, n) -/
structure Txt1 (K : Frag) (fI cda cc : Addr) (n : Str) : Prop where
  fn : ∃ (oc : Value) (od : Option Addr) (osl : Array (Option Value)) (qual : Str) (doc pm : Value) (an : Option Addr) (ct : Value) (a1 a2 p1 p2 p3 p4 p5 p6 q1 q2 q3 q4 : Pos),
    K.lookup fI = some ⟨oc, od, .func (ksFn "__init__" qual (args1 n a1 a2) [supS [.Name n p6] p1 p2 p3 p4 p5, setS n q1 q2 q3 q4] (sco1 n) .none .none doc pm an (.ref cda) ct cc), osl⟩ ∧ codeIn K (.ref cda) qual = true ∧
    (∀ (s : Shared) (x v : Value), BindsTo s (ksFn "__init__" qual (args1 n a1 a2) [supS [.Name n p6] p1 p2 p3 p4 p5, setS n q1 q2 q3 q4] (sco1 n) .none .none doc pm an (.ref cda) ct cc) ⟨[x, v], []⟩ [("self", x), (n, v)]) ∧
    ∃ pl, ∀ L : Addr, CallE (ksEnv qual (sco1 n) L fI (.ref cda) cc) [.Name n p6] p1 p2 p3 p4 pl
structure Txt2 (K : Frag) (fI cda cc : Addr) (n1 n2 : Str) : Prop where
  fn : ∃ (oc : Value) (od : Option Addr) (osl : Array (Option Value)) (qual : Str) (doc pm : Value) (an : Option Addr) (ct : Value) (a1 a2 a3 p1 p2 p3 p4 p5 p6 p7 q1 q2 q3 q4 r1 r2 r3 r4 : Pos),
    K.lookup fI = some ⟨oc, od, .func (ksFn "__init__" qual (args2 n1 n2 a1 a2 a3) [supS [.Name n1 p6, .Name n2 p7] p1 p2 p3 p4 p5, setS n1 q1 q2 q3 q4, setS n2 r1 r2 r3 r4] (sco2 n1 n2) .none .none doc pm an (.ref cda) ct cc), osl⟩ ∧ codeIn K (.ref cda) qual = true ∧
    (∀ (s : Shared) (x v y : Value), BindsTo s (ksFn "__init__" qual (args2 n1 n2 a1 a2 a3) [supS [.Name n1 p6, .Name n2 p7] p1 p2 p3 p4 p5, setS n1 q1 q2 q3 q4, setS n2 r1 r2 r3 r4] (sco2 n1 n2) .none .none doc pm an (.ref cda) ct cc) ⟨[x, v, y], []⟩ [("self", x), (n1, v), (n2, y)]) ∧
    ∃ pl, ∀ L : Addr, CallE (ksEnv qual (sco2 n1 n2) L fI (.ref cda) cc) [.Name n1 p6, .Name n2 p7] p1 p2 p3 p4 pl
section
variable {prog : Program} {w : World} {K : Frag} {C D fI cda cc : Addr} {mg mb : Str → Option Value}
theorem ldC {M : Model} {A : Around} {E : Value → Shared → Prop} {s : Shared} {env : Env} {m : Str → Option Value} {x : Str} {pos : Pos} {v : Value} {Q : Value → Shared → Prop} (hn : s.heap.Ns env.locals m) (hv : m x = some v) (h : Q v s)
    (hk : env.scope.kind = .function) (hl : env.kindOf x = some .local) (hd : (x == ("__debug__" : Str)) = false) :
    wpAny M A (eval (.Name x pos) env) Q E s := wpAny_Name (wpAny_loadName_local hk hl hn hv h) hd
theorem one_size : ∀ v : Value, [v].length ≤ sizeLine := fun v => by
  rw [sizeLine_eq]
  exact (by decide : 1 ≤ 16777216)
theorem two_size (u v : Value) : [u, v].length ≤ sizeLine := by
  rw [sizeLine_eq]
  exact (by decide : 2 ≤ 16777216)
theorem init1 {n : Str} {u : Value} (T : SupTxt prog K C D fI cda cc) (T1 : Txt1 K fI cda cc n) (hS : mg "super" = none) (hB : mb "super" = some (.type "super")) (noN : findIn K (.ref C) n = some none)
    (n1 : (n == ("self" : Str)) = false) (n2 : (n == ("__debug__" : Str)) = false) (n3 : (n == ("__class__" : Str)) = false) (n4 : (n == ("super" : Str)) = false) :
    InitOk prog w K mg mb C fI [u] (fun y => if y = n then some u else none) := by
  intro A R s x t0 X hlim hG hBl hx hnx hroom hq
  obtain ⟨oc, od, osl, qual, doc, pm, an, ct, a1, a2, p1, p2, p3, p4, p5, p6, q1, q2, q3, q4, ho, hcd, hb, pl, hce⟩ := T1.fn
  have hs1 : (("self" : Str) == n) = false := BEq.comm.trans n1
  have hs2 : (("__class__" : Str) == n) = false := BEq.comm.trans n3
  have hs3 : (("super" : Str) == n) = false := BEq.comm.trans n4
  have l1 : (sco1 n).names.lookup n = some .local := by
    show List.lookup n [(PySem.Str.ofString "self", NameKind.local), (n, .local), (PySem.Str.ofString "__class__", .free), (PySem.Str.ofString "super", .globalImplicit)] = _
    simp [List.lookup, n1]
  have l0 : (sco1 n).names.lookup ("self" : Str) = some .local := rfl
  have l2 : (sco1 n).names.lookup ("__class__" : Str) = some .free := by
    show List.lookup (PySem.Str.ofString "__class__") [(PySem.Str.ofString "self", NameKind.local), (n, .local), (PySem.Str.ofString "__class__", .free), (PySem.Str.ofString "super", .globalImplicit)] = _
    have e : (PySem.Str.ofString "__class__" == PySem.Str.ofString "self") = false := by decide
    simp [List.lookup, hs2, e]
  have l3 : (sco1 n).names.lookup ("super" : Str) = some .globalImplicit := by
    show List.lookup (PySem.Str.ofString "super") [(PySem.Str.ofString "self", NameKind.local), (n, .local), (PySem.Str.ofString "__class__", .free), (PySem.Str.ofString "super", .globalImplicit)] = _
    have e : (PySem.Str.ofString "super" == PySem.Str.ofString "self") = false := by decide
    have e2 : (PySem.Str.ofString "super" == PySem.Str.ofString "__class__") = false := by decide
    simp [List.lookup, hs3, e, e2]
  have b1 : (([("self", .ref x), (n, u)] : List (Str × Value)).reverse.lookup n) = some u := by simp [List.lookup]
  have b0 : (([("self", .ref x), (n, u)] : List (Str × Value)).reverse.lookup ("self" : Str)) = some (.ref x) := by simp [List.lookup, hs1]
  obtain ⟨nm, q, N, bs, bm, sn, sub, ab, col, dd, k0, k1, k2, k3, k5, hC, hbm⟩ := T.cls
  have hcl : clsIn K C = some { name := nm, bases := bs, mro := .ref C :: bm, ns := N, qualname := q, hasDict := true, slotNames := sn, subclasses := sub, abstract := ab, collection := col, hasDel := false } := by unfold clsIn; rw [hC] <;> rfl
  refine ks_codeAny_call_defAt (fd := ksFn "__init__" qual (args1 n a1 a2) [supS [.Name n p6] p1 p2 p3 p4 p5, setS n q1 q2 q3 q4] (sco1 n) .none .none doc pm an (.ref cda) ct cc) (body := [supS [.Name n p6] p1 p2 p3 p4 p5, setS n q1 q2 q3 q4]) (binds := [("self", .ref x), (n, u)])
    hroom (X _ _ ho) rfl hlim (codeRec_of X hcd) rfl (hb s (.ref x) u) ?_ ?_ (fun h1 hn1 k1 => ?_) rfl rfl rfl
  · intro y hy
    have hy' : y ∈ [(PySem.Str.ofString "self", NameKind.local), (n, .local), (PySem.Str.ofString "__class__", .free), (PySem.Str.ofString "super", .globalImplicit)] := hy
    simp only [List.mem_cons, List.not_mem_nil, or_false] at hy'
    rcases hy' with rfl | rfl | rfl | rfl <;> simp
  · intro y hy
    simp only [List.mem_cons, List.not_mem_nil, or_false] at hy
    rcases hy with rfl | rfl
    · exact l0
    · exact l1
  refine ks_wpAt_execs_cons ?_
  refine sup_stmt (prog := prog) (mg := mg) (mb := mb) (x := x) (t0 := t0) (us := [u]) (s := { s with heap := h1, toks := s.toks + 2 }) T (X.keeps k1) ⟨hG.keeps k1, hBl.keeps k1, hn1, k1 _ _ hx⟩ ho rfl b0 hS hB l3 l2 l0 rfl (one_size u) (fun h2 tk P k2 hP => ?_) rfl rfl (fun h2 t1 tk k2 e2 => ?_) (hce _) rfl rfl
  · show wpAny _ _ (spliced ((false, eval (.Name n p6) _) :: backTo p4 [])) _ _ _
    refine Calls.spliced_cons (ldC (m := fun y => ([("self", .ref x), (n, u)] : List (Str × Value)).reverse.lookup y) (hn1.keeps k2) b1 ?_ rfl l1 n2)
    exact Calls.spliced_nil hP
  refine wpAt_of_wpAny ?_
  show wpAny _ _ (execs [setS n q1 q2 q3 q4] _) _ _ _
  have xL : s.heap.objs.size ≠ x := Nat.ne_of_gt (Heap.lt_size hx)
  have hn2 : h2.Ns s.heap.objs.size fun y => ([("self", .ref x), (n, u)] : List (Str × Value)).reverse.lookup y := hn1.at (fun o e => k2 _ o xL e)
  have X2 : K.In h2 := fun a o e => k2 a o (fun z => by rw [z, hnx] at e; cases e) (X.keeps k1 _ _ e)
  refine wpAny_execs_cons (plainObj_wpAny_Assign_Attribute ?_)
  refine ldC (v := u) hn2 b1 (ldC (v := .ref x) hn2 b0 ?_ rfl l0 (by decide)) rfl l1 n2
  refine set_plain X2 (ox := excO C t1) (od := none) ⟨e2, rfl, rfl, trivial⟩ T.sa ?_
  refine exc_osa X2 e2 hcl (show refsVE (.ref C :: bm) = true from hbm) rfl noN (fun h3 tk3 dx k3 dn dne hx3 hn3 => ?_)
  refine wpAny_execs_nil (hq h3 tk3 dx t1 ⟨fun b o hb e => k3 b o hb (k2 b o hb (k1 b o e)), hx3, Nat.le_trans (Nat.le_of_lt ?_) dn, dne, hn3⟩)
  exact hn2.lt

theorem init2 {n m : Str} {u v : Value} (T : SupTxt prog K C D fI cda cc) (T1 : Txt2 K fI cda cc n m) (hS : mg "super" = none) (hB : mb "super" = some (.type "super")) (noN : findIn K (.ref C) n = some none) (noM : findIn K (.ref C) m = some none)
    (n1 : (n == ("self" : Str)) = false) (n2 : (n == ("__debug__" : Str)) = false) (n3 : (n == ("__class__" : Str)) = false) (n4 : (n == ("super" : Str)) = false)
    (m1 : (m == ("self" : Str)) = false) (m2 : (m == ("__debug__" : Str)) = false) (m3 : (m == ("__class__" : Str)) = false) (m4 : (m == ("super" : Str)) = false) (nm0 : (n == m) = false) :
    InitOk prog w K mg mb C fI [u, v] (fun y => if y = m then some v else if y = n then some u else none) := by
  intro A R s x t0 X hlim hG hBl hx hnx hroom hq
  obtain ⟨oc, od, osl, qual, doc, pm, an, ct, a1, a2, a3, p1, p2, p3, p4, p5, p6, p7, q1, q2, q3, q4, r1, r2, r3, r4, ho, hcd, hb, pl, hce⟩ := T1.fn
  have hs1 : (("self" : Str) == n) = false := BEq.comm.trans n1
  have hs2 : (("__class__" : Str) == n) = false := BEq.comm.trans n3
  have hs3 : (("super" : Str) == n) = false := BEq.comm.trans n4
  have hm1 : (("self" : Str) == m) = false := BEq.comm.trans m1
  have hm2 : (("__class__" : Str) == m) = false := BEq.comm.trans m3
  have hm3 : (("super" : Str) == m) = false := BEq.comm.trans m4
  have hmn : (m == n) = false := BEq.comm.trans nm0
  have l1 : (sco2 n m).names.lookup n = some .local := by
    show List.lookup n [(PySem.Str.ofString "self", NameKind.local), (n, .local), (m, .local), (PySem.Str.ofString "__class__", .free), (PySem.Str.ofString "super", .globalImplicit)] = _
    simp [List.lookup, n1]
  have l5 : (sco2 n m).names.lookup m = some .local := by
    show List.lookup m [(PySem.Str.ofString "self", NameKind.local), (n, .local), (m, .local), (PySem.Str.ofString "__class__", .free), (PySem.Str.ofString "super", .globalImplicit)] = _
    simp [List.lookup, m1, hmn]
  have l0 : (sco2 n m).names.lookup ("self" : Str) = some .local := rfl
  have l2 : (sco2 n m).names.lookup ("__class__" : Str) = some .free := by
    show List.lookup (PySem.Str.ofString "__class__") [(PySem.Str.ofString "self", NameKind.local), (n, .local), (m, .local), (PySem.Str.ofString "__class__", .free), (PySem.Str.ofString "super", .globalImplicit)] = _
    have e : (PySem.Str.ofString "__class__" == PySem.Str.ofString "self") = false := by decide
    simp [List.lookup, hs2, hm2, e]
  have l3 : (sco2 n m).names.lookup ("super" : Str) = some .globalImplicit := by
    show List.lookup (PySem.Str.ofString "super") [(PySem.Str.ofString "self", NameKind.local), (n, .local), (m, .local), (PySem.Str.ofString "__class__", .free), (PySem.Str.ofString "super", .globalImplicit)] = _
    have e : (PySem.Str.ofString "super" == PySem.Str.ofString "self") = false := by decide
    have e2 : (PySem.Str.ofString "super" == PySem.Str.ofString "__class__") = false := by decide
    simp [List.lookup, hs3, hm3, e, e2]
  have b1 : (([("self", .ref x), (n, u), (m, v)] : List (Str × Value)).reverse.lookup n) = some u := by simp [List.lookup, nm0]
  have b5 : (([("self", .ref x), (n, u), (m, v)] : List (Str × Value)).reverse.lookup m) = some v := by simp [List.lookup]
  have b0 : (([("self", .ref x), (n, u), (m, v)] : List (Str × Value)).reverse.lookup ("self" : Str)) = some (.ref x) := by simp [List.lookup, hs1, hm1]
  obtain ⟨nm, q, N, bs, bm, sn, sub, ab, col, dd, k0, k1, k2, k3, k5, hC, hbm⟩ := T.cls
  have hcl : clsIn K C = some { name := nm, bases := bs, mro := .ref C :: bm, ns := N, qualname := q, hasDict := true, slotNames := sn, subclasses := sub, abstract := ab, collection := col, hasDel := false } := by unfold clsIn; rw [hC] <;> rfl
  refine ks_codeAny_call_defAt (fd := ksFn "__init__" qual (args2 n m a1 a2 a3) [supS [.Name n p6, .Name m p7] p1 p2 p3 p4 p5, setS n q1 q2 q3 q4, setS m r1 r2 r3 r4] (sco2 n m) .none .none doc pm an (.ref cda) ct cc) (body := [supS [.Name n p6, .Name m p7] p1 p2 p3 p4 p5, setS n q1 q2 q3 q4, setS m r1 r2 r3 r4]) (binds := [("self", .ref x), (n, u), (m, v)])
    hroom (X _ _ ho) rfl hlim (codeRec_of X hcd) rfl (hb s (.ref x) u v) ?_ ?_ (fun h1 hn1 k1 => ?_) rfl rfl rfl
  · intro y hy
    have hy' : y ∈ [(PySem.Str.ofString "self", NameKind.local), (n, .local), (m, .local), (PySem.Str.ofString "__class__", .free), (PySem.Str.ofString "super", .globalImplicit)] := hy
    simp only [List.mem_cons, List.not_mem_nil, or_false] at hy'
    rcases hy' with rfl | rfl | rfl | rfl | rfl <;> simp
  · intro y hy
    simp only [List.mem_cons, List.not_mem_nil, or_false] at hy
    rcases hy with rfl | rfl | rfl
    · exact l0
    · exact l1
    · exact l5
  refine ks_wpAt_execs_cons ?_
  refine sup_stmt (prog := prog) (mg := mg) (mb := mb) (x := x) (t0 := t0) (us := [u, v]) (s := { s with heap := h1, toks := s.toks + 3 }) T (X.keeps k1) ⟨hG.keeps k1, hBl.keeps k1, hn1, k1 _ _ hx⟩ ho rfl b0 hS hB l3 l2 l0 rfl (two_size u v) (fun h2 tk P k2 hP => ?_) rfl rfl (fun h2 t1 tk k2 e2 => ?_) (hce _) rfl rfl
  · show wpAny _ _ (spliced ((false, eval (.Name n p6) _) :: backTo p4 ((false, eval (.Name m p7) _) :: []))) _ _ _
    refine Calls.spliced_cons (ldC (m := fun y => ([("self", .ref x), (n, u), (m, v)] : List (Str × Value)).reverse.lookup y) (hn1.keeps k2) b1 ?_ rfl l1 n2)
    refine Calls.spliced_cons (ldC (m := fun y => ([("self", .ref x), (n, u), (m, v)] : List (Str × Value)).reverse.lookup y) (hn1.keeps k2) b5 ?_ rfl l5 m2)
    exact Calls.spliced_nil hP
  refine wpAt_of_wpAny ?_
  show wpAny _ _ (execs [setS n q1 q2 q3 q4, setS m r1 r2 r3 r4] _) _ _ _
  have xL : s.heap.objs.size ≠ x := Nat.ne_of_gt (Heap.lt_size hx)
  have hn2 : h2.Ns s.heap.objs.size fun y => ([("self", .ref x), (n, u), (m, v)] : List (Str × Value)).reverse.lookup y := hn1.at (fun o e => k2 _ o xL e)
  have X2 : K.In h2 := fun a o e => k2 a o (fun z => by rw [z, hnx] at e; cases e) (X.keeps k1 _ _ e)
  refine wpAny_execs_cons (plainObj_wpAny_Assign_Attribute ?_)
  refine ldC (v := u) hn2 b1 (ldC (v := .ref x) hn2 b0 ?_ rfl l0 (by decide)) rfl l1 n2
  refine set_plain X2 (ox := excO C t1) (od := none) ⟨e2, rfl, rfl, trivial⟩ T.sa ?_
  refine exc_osa X2 e2 hcl (show refsVE (.ref C :: bm) = true from hbm) rfl noN (fun h3 tk3 dx k3 dn dne hx3 hn3 => ?_)
  show wpAny _ _ (execs [setS m r1 r2 r3 r4] _) _ _ _
  have X3 : K.In h3 := fun a o e => k3 a o (fun z => by rw [z, hnx] at e; cases e) (X2 _ _ e)
  have hn4 : h3.Ns s.heap.objs.size fun y => ([("self", .ref x), (n, u), (m, v)] : List (Str × Value)).reverse.lookup y := hn2.at (fun o e => k3 _ o xL e)
  have hw : Within (fun y => if y = n then some u else none) [n] := Within.cons n u Within.nil
  have szL : s.heap.objs.size < h2.objs.size := hn2.lt
  have dL : dx ≠ s.heap.objs.size := Nat.ne_of_gt (Nat.lt_of_lt_of_le szL dn)
  obtain ⟨oD, esD, epD, hoD, hdD, _⟩ := hn3.count hw
  refine wpAny_execs_cons (plainObj_wpAny_Assign_Attribute ?_)
  refine ldC (v := v) hn4 b5 (ldC (v := .ref x) hn4 b0 ?_ rfl l0 (by decide)) rfl l5 m2
  refine set_plain X3 (ox := { cls := .ref C, dict := some dx, data := .fields #[.ref t1, .none, .none, .none, .bool false, .none] }) (od := some oD) ⟨hx3, rfl, rfl, hoD⟩ T.sa ?_
  refine PySem.OEX.osa_old X3 hx3 hn3 hw (by simp) hcl (show refsVE (.ref C :: bm) = true from hbm) rfl noM (fun h5 tk5 k5 hn5 => ?_)
  have old : ∀ b o, b ≠ x → s.heap.get? b = some o → h5.get? b = some o := fun b o hb e =>
    k5 b o (fun z => by
      have y := Heap.lt_size e
      rw [z] at y
      exact absurd (Nat.lt_of_lt_of_le (Nat.lt_trans y szL) dn) (Nat.lt_irrefl _)) (k3 b o hb (k2 b o hb (k1 b o e)))
  refine wpAny_execs_nil (hq h5 tk5 dx t1 ⟨old, k5 _ _ (Ne.symm dne) hx3, Nat.le_trans (Nat.le_of_lt szL) dn, dne, hn5⟩)

/-- an exception made -/
structure OwnMade (h h' : Heap) (e C d : Addr) (mA : Str → Option Value) : Prop where
  keep : ∀ b o, h.get? b = some o → h'.get? b = some o
  new : h.objs.size ≤ e
  obj : ∃ oe vs, h'.get? e = some oe ∧ oe.cls = .ref C ∧ oe.dict = some d ∧ oe.data = .fields vs ∧ vs[1]? = some .none
  dbig : h.objs.size ≤ d
  dne : d ≠ e
  ns : h'.Ns1 d mA
theorem own_made {A : Around} {R : Result → Shared → Prop} {s : Shared} {us : List Value} {mA : Str → Option Value} (T : SupTxt prog K C D fI cda cc) (IO : InitOk prog w K mg mb C fI us mA) (X : K.In s.heap) (hlim : s.heap.NoLimit) (hG : s.heap.Ns mainGlobals mg) (hBl : s.heap.Ns builtinsNs mb)
    (hroom : A.depth + 1 < recursionLimit) (hz : us.length ≤ sizeLine)
    (hq : ∀ h' tk e d, OwnMade s.heap h' e C d mA → R (.ok (.ret (.ref e))) { s with heap := h', toks := tk }) :
    codeAny (model prog w) A (.call (.ref C) ⟨us, []⟩) R s := by
  obtain ⟨nm, q, N, bs, bm, sn, sub, ab, col, dd, k0, k1, k2, k3, k5, hC, hbm⟩ := T.cls
  obtain ⟨hp, g, dr, tk, os⟩ := s
  have k : ∀ b o, hp.get? b = some o → ((hp.push (kdv_tup us)).push (excO C hp.objs.size)).get? b = some o := fun b o e => Heap.get?_push_of_some _ (Heap.get?_push_of_some _ e)
  have hget : ((hp.push (kdv_tup us)).push (excO C hp.objs.size)).get? (hp.objs.size + 1) = some (excO C hp.objs.size) := by heap_get
  have hnx : K.lookup (hp.objs.size + 1) = none := by
    cases e : K.lookup (hp.objs.size + 1) with
    | none => rfl
    | some o =>
      have z : hp.get? (hp.objs.size + 1) = some o := X _ _ e
      exact absurd (Nat.lt_of_succ_lt (Heap.lt_size z)) (Nat.lt_irrefl _)
  refine call_own F.excBase_ValueError (fun X => refsVE_contains X bm hbm) (X _ _ hC) (looks_findIn X T.iC) (fun self => bind_fn X self T.tC) hz ?_
  refine IO _ _ ⟨(hp.push (kdv_tup us)).push (excO C hp.objs.size), g, dr, tk, os⟩ (hp.objs.size + 1) hp.objs.size (X.keeps k) (hlim.keeps k) (hG.keeps k) (hBl.keeps k) hget hnx ?_ fun h' tk' dx t1 ⟨k', hx, dn, dne, hns⟩ => ?_
  · show A.depth + 1 < recursionLimit
    exact hroom
  · have old : ∀ b o, hp.get? b = some o → h'.get? b = some o := fun b o e => k' b o (Nat.ne_of_lt (Nat.lt_succ_of_lt (Heap.lt_size e))) (k b o e)
    have z : hp.objs.size + 1 + 1 ≤ dx := by
      first
        | (simpa only [Heap.size_push] using dn)
        | exact dn
        | (have q := dn; rw [Heap.size_push, Heap.size_push] at q; exact q)
    exact ⟨rfl, hq h' tk' (hp.objs.size + 1) dx ⟨old, Nat.le_succ _, ⟨_, _, hx, rfl, rfl, rfl, rfl⟩, Nat.le_trans (Nat.le_trans (Nat.le_succ _) (Nat.le_succ _)) z, dne, hns⟩⟩
end
end FLX
end PySem

namespace FL
open PySem PySem.Spec PyProof.Rows L2 LamX
/-- a class of exceptions of one's own: where it stands, its fields -/
structure ExcOk (X : Cx) (c : Str) (C : Addr) (ns : List Str) : Prop where
  g : X.mg c = some (.ref C)
  k : PySem.W.keepIn X.K (.ref C) = true
  r : PySem.W.subIn X.K (.ref C) (.type "BaseException") = some true
  ty : PySem.W.typeIn X.K (.ref C) = some (.type "type")
  make : ∀ (A : Around) (R : Result → Shared → Prop) (s : Shared) (us : List Value), us.length = ns.length → X.K.In s.heap → s.heap.NoLimit → s.heap.Ns mainGlobals X.mg → (∃ mb, s.heap.Ns builtinsNs mb ∧ ∀ x : Str, x ≠ "__name__" → mb x = bootBuiltins x) → A.depth + 1 < recursionLimit →
    (∀ h' tk e d mA, PySem.FLX.OwnMade s.heap h' e C d mA → (∀ (vs : List V) f, Vals vs us → RelO ((ns.zip vs).lookup f) (mA f)) → R (.ok (.ret (.ref e))) { s with heap := h', toks := tk }) →
    codeAny (model X.prog X.w) A (.call (.ref C) ⟨us, []⟩) R s
/-- c(e ..) -/
def tMkE (C : Addr) (ns : List Str) (ta : TA) : L2.St → Hp → XK → Prop := fun σ H Q => ta σ H fun vs H1 => vs.length = ns.length ∧ ∀ d, H1 d = none → Q (.ref C) (some d) (upd H1 d (.xd (ns.zip vs)))
theorem pmk_own {X : Cx} {c : Str} {C : Addr} {ns : List Str} {e : Expr} {es : List Expr} {ta : TA} {p pos : Pos} {k : Nat} (T : ExcOk X c C ns) (hr : Room k X.A) (ha : PA X (e :: es) ta) (hg : Gl X c) (hdb : (c == ("__debug__" : Str)) = false := by decide)
    (he : starEach (e :: es) X.env = (false, eval e X.env) :: starEach es X.env := by rfl) (hpl : (backTo pos (starEach es X.env)).any (·.1) = false := by rfl) :
    PMk X (.Call (.Name c p) (e :: es) [] pos) (tMkE C ns ta) := by
  intro pins s σ H Q I h
  refine wpAny_Call_Name_kw (ld_glob I hg T.g ?_ hdb)
  refine PySem.W.callWith_K (h₀ := X.base) I.ok.mod.kin T.k (thn (ha.run pos pins s σ H _ I h) fun us s1 hh => ?_) he hpl
  obtain ⟨vs, H1, I1, r1, hl, q1⟩ := hh
  refine ⟨I1.kIn, ?_⟩
  show wpAny _ _ (call (.ref C) us) _ _ _
  have hlim := I1.nolimit
  have hG := I1.mod.glob.keeps I1.bk
  obtain ⟨mb, hb1, hb2⟩ := I1.mod.blt
  have hB : ∃ mb, s1.heap.Ns builtinsNs mb ∧ ∀ x : Str, x ≠ "__name__" → mb x = bootBuiltins x := ⟨mb, hb1.keeps I1.bk, hb2⟩
  have kin := I1.kIn
  obtain ⟨hp, g, dr, tk, os⟩ := s1
  refine wpAny_call (T.make _ _ _ us (by rw [← Paired.length r1, hl]) kin hlim hG hB (by have := hr.dp; omega) fun h' tk' e d mA M rel => ?_)
  show MkP X pins σ Q (.ref e) ⟨h', g, dr, tk', os⟩
  obtain ⟨oe, fv, hoe, hc, hd, hdat, h1⟩ := M.obj
  have hns := M.ns
  obtain ⟨G', g1, g2⟩ := restrict h' fun b => decide (b ≠ e)
  have gk : ∀ b, b ≠ e → G'.get? b = h'.get? b := fun b hb => g1 b (decide_eq_true hb)
  have ge : G'.get? e = none := g2 e (by simp)
  have old : ∀ b o, hp.get? b = some o → G'.get? b = some o := fun b o q => (gk b (Nat.ne_of_lt (Nat.lt_of_lt_of_le (Heap.lt_size q) M.new))).trans (M.keep b o q)
  have ob : ObjOk X.prog X.w (upd H1 d (.xd (ns.zip vs))) G' d (.xd (ns.zip vs)) :=
    ⟨_, hns.at (fun o q => (gk d M.dne).trans q), fun f => rel vs f r1⟩
  have J : Inv X pins σ (upd H1 d (.xd (ns.zip vs))) ⟨G', g, dr, tk', os⟩ := I1.laid (t' := tk') old M.dbig ob
  refine ⟨e, oe, fv, ⟨G', g, dr, tk', os⟩, _, .ref C, some d, rfl, J, fun b o q => ?_, ge, hoe, ⟨hc, hd⟩, hdat, h1, ?_, rfl, I1.bare, raises_own T.r T.ty, q1 d (I1.hok.fresh M.dbig)⟩
  · by_cases hb : b = e
    · have q' : G'.get? b = some o := q
      rw [hb, ge] at q'; cases q'
    · exact (gk b hb).symm.trans q
  · rw [upd_ne (Ne.symm M.dne)]
    exact I1.hok.fresh M.new
/-- raise c(e ..) -/
@[simp] def kRaise (c : Str) (n : Nat) (γ : Gam) (ds : List D) (st : Sto) : Fl := if ds.length = n then .ex c ds γ st else .bad
@[simp] def sRaise (c : Str) (n : Nat) (fa : AF) : SF := fun γ st => (fa γ st).fl γ (kRaise c n γ)
theorem fs_raise {X : Cx} {g : Gx} {W : WX} {c : Str} {C : Addr} {ns : List Str} {e : Expr} {es : List Expr} {fa : AF} {p pos pos2 : Pos} {k : Nat} (hK : Gok X g) (hc : X.calm = true) (T : ExcOk X c C ns) (hx : g.xa c = ns) (tk : Takes X W) (hr : Room k X.A) (ha : PA X (e :: es) (tFA g W fa)) (hg : Gl X c := by rfl) (hdb : (c == ("__debug__" : Str)) = false := by decide)
    (he : starEach (e :: es) X.env = (false, eval e X.env) :: starEach es X.env := by rfl) (hpl : (backTo pos (starEach es X.env)).any (·.1) = false := by rfl) :
    PS X (.Raise (some (.Call (.Name c p) (e :: es) [] pos)) none pos2) (tS g W (sRaise c ns.length fa)) := by
  refine (ps_raise hc tk (pmk_own T hr ha hg hdb he hpl)).imp ?_
  intro D' σ H h
  obtain ⟨γ, S, ρ, F, st, he, hc, hr⟩ := tG_fl (R := fun S ρ => DVs g S ρ) (k := fun γ ds st1 => kRaise c ns.length γ ds st1) h
  refine ⟨γ, S, ρ, F, st, he, hc, hr.imp ?_⟩
  rintro vs H1 ⟨γ, S, ρ, F, st, ds, he, hc, r, h⟩
  dsimp only [kRaise] at h
  split at h
  · rename_i hl
    have hl' : vs.length = ns.length := by rw [r.length, hl]
    refine ⟨hl', fun d hd => ?_⟩
    obtain ⟨c2, le2⟩ := hc.laid (p := d) (o := .xd (ns.zip vs)) hd
    refine h σ (.ref C) (some d) _ ρ _ le2 (he.mono le2) c2 ⟨C, d, vs, hK.mg ▸ T.g, rfl, rfl, ?_, by rw [hx]; exact hl', r.mono le2⟩
    rw [hx]
    exact upd_same
  · exact h.elim
/-- a class whose __init__ has one parameter, two -/
theorem exc1 {X : Cx} {c n : Str} {C D fI cda cc : Addr} (g : X.mg c = some (.ref C)) (T : PySem.FLX.SupTxt X.prog X.K C D fI cda cc) (T1 : PySem.FLX.Txt1 X.K fI cda cc n) (hS : X.mg "super" = none) (noN : PySem.W.findIn X.K (.ref C) n = some none)
    (n1 : (n == ("self" : Str)) = false := by decide) (n2 : (n == ("__debug__" : Str)) = false := by decide) (n3 : (n == ("__class__" : Str)) = false := by decide) (n4 : (n == ("super" : Str)) = false := by decide) : ExcOk X c C [n] where
  g := g
  k := T.kC
  r := T.exC
  ty := T.tyC
  make := by
    intro A R s us hl X' hlim hG ⟨mb, hb1, hb2⟩ hroom hq
    match us, hl with
    | [u], _ =>
      refine PySem.FLX.own_made T (PySem.FLX.init1 T T1 hS ((hb2 _ (by decide)).trans (by decide +kernel)) noN n1 n2 n3 n4) X' hlim hG hb1 hroom (PySem.FLX.one_size u) fun h' tk e d M => hq h' tk e d _ M fun vs f r => ?_
      cases r with
      | cons rv rn =>
        rename_i v' us'
        cases rn
        by_cases hf : f = n
        · subst hf
          rw [if_pos rfl]
          have q : List.lookup f (([f] : List Str).zip [v']) = some v' := by simp [List.lookup]
          rw [q]
          exact rv
        · rw [if_neg hf]
          have qw : (f == n) = false := by simpa using hf
          have q : List.lookup f (([n] : List Str).zip [v']) = none := by simp [List.lookup, qw]
          rw [q]
          trivial
theorem exc2 {X : Cx} {c n m : Str} {C D fI cda cc : Addr} (g : X.mg c = some (.ref C)) (T : PySem.FLX.SupTxt X.prog X.K C D fI cda cc) (T1 : PySem.FLX.Txt2 X.K fI cda cc n m) (hS : X.mg "super" = none) (noN : PySem.W.findIn X.K (.ref C) n = some none) (noM : PySem.W.findIn X.K (.ref C) m = some none)
    (n1 : (n == ("self" : Str)) = false := by decide) (n2 : (n == ("__debug__" : Str)) = false := by decide) (n3 : (n == ("__class__" : Str)) = false := by decide) (n4 : (n == ("super" : Str)) = false := by decide)
    (m1 : (m == ("self" : Str)) = false := by decide) (m2 : (m == ("__debug__" : Str)) = false := by decide) (m3 : (m == ("__class__" : Str)) = false := by decide) (m4 : (m == ("super" : Str)) = false := by decide) (nm : (n == m) = false := by decide) : ExcOk X c C [n, m] where
  g := g
  k := T.kC
  r := T.exC
  ty := T.tyC
  make := by
    intro A R s us hl X' hlim hG ⟨mb, hb1, hb2⟩ hroom hq
    match us, hl with
    | [u, w], _ =>
      refine PySem.FLX.own_made T (PySem.FLX.init2 T T1 hS ((hb2 _ (by decide)).trans (by decide +kernel)) noN noM n1 n2 n3 n4 m1 m2 m3 m4 nm) X' hlim hG hb1 hroom (PySem.FLX.two_size u w) fun h' tk e d M => hq h' tk e d _ M fun vs f r => ?_
      cases r with
      | cons rv rn =>
        rename_i v' us'
        cases rn with
        | cons rw' rn =>
          rename_i w' us'
          cases rn
          by_cases hf : f = m
          · subst hf
            rw [if_pos rfl]
            have nm' : (f == n) = false := BEq.comm.trans nm
            have q : List.lookup f (([n, f] : List Str).zip [v', w']) = some w' := by simp [List.lookup, nm']
            rw [q]
            exact rw'
          · rw [if_neg hf]
            have qm : (f == m) = false := by simpa using hf
            by_cases hn : f = n
            · subst hn
              rw [if_pos rfl]
              have q : List.lookup f (([f, m] : List Str).zip [v', w']) = some v' := by simp [List.lookup]
              rw [q]
              exact rv
            · rw [if_neg hn]
              have qn : (f == n) = false := by simpa using hn
              have q : List.lookup f (([n, m] : List Str).zip [v', w']) = none := by simp [List.lookup, qn, qm]
              rw [q]
              trivial
end FL
end
section
set_option Elab.async false
set_option linter.all false
set_option maxRecDepth 100000
set_option maxHeartbeats 2000000
namespace FL
open PySem PySem.Spec PyProof.Rows L2 LamX
/-! ## isinstance -/
/-- a value's type by name -/
def tyN : D → Option String
  | .non => some "NoneType"
  | .bl _ => some "bool"
  | .int _ => some "int"
  | .str _ => some "str"
  | .tup _ => some "tuple"
  | .lst _ => some "list"
  | .ro _ => some "list"
  | .cell _ => some "list"
  | .dic => some "dict"
  | _ => none
def isiB (a b : String) : Option Bool := if ["int", "bool", "str", "tuple", "list", "dict"].contains b then some (a == b || (a == "bool" && b == "int")) else none
theorem isiB_all : (["NoneType", "bool", "int", "str", "tuple", "list", "dict"] : List String).all (fun a => (["int", "bool", "str", "tuple", "list", "dict"] : List String).all fun b => decide (isiB a b = kitB a b)) = true := by decide +kernel
theorem isiB_ok {K : PySem.W.Frag} {d : D} {a b : String} {r : Bool} (h : tyN d = some a) (e : isiB a b = some r) : PySem.W.kitOne K (.type a) (.type b) = some r := by
  refine kit_ty ?_
  have hb : b ∈ (["int", "bool", "str", "tuple", "list", "dict"] : List String) := by
    unfold isiB at e
    split at e
    · rename_i q
      simpa using q
    · cases e
  have ha : a ∈ (["NoneType", "bool", "int", "str", "tuple", "list", "dict"] : List String) := by
    cases d <;> simp only [tyN] at h <;> cases h <;> simp
  have z := List.all_eq_true.mp (List.all_eq_true.mp isiB_all a ha) b hb
  rw [← of_decide_eq_true z]
  exact e
/-- the classes of exceptions: sub tells which is below which -/
def SubOk (X : Cx) (sub : Str → Str → Option Bool) : Prop := ∀ (c c2 : Str) (b : Bool) (C C2 : Addr), sub c c2 = some b → X.mg c = some (.ref C) → X.mg c2 = some (.ref C2) → PySem.W.kitOne X.K (.ref C) (.ref C2) = some b ∧ ExcC X.K C
def opIsi (sub : Str → Str → Option Bool) : OpN := fun st ds => match ds with
  | [.exc c _, .cls c2] => (sub c c2).map .bl
  | [.cell n, .ty b] => match st[n]? with
    | some (some (.lst _)) => (isiB "list" b).map .bl
    | _ => none
  | [d, .ty b] => match tyN d with
    | some a => (isiB a b).map .bl
    | none => none
  | _ => none
theorem tyN_ok {g : Gx} {S F H : Hp} {ρ : List Addr} {st : Sto} {v : V} {d : D} {a : String} {K : PySem.W.Frag} (hK : g.K = K) (c : Cfg g S ρ F st H) (r : DV g S ρ v d) (hl : ∀ n, d = .cell n → ∃ ds, st[n]? = some (some (.lst ds))) (h : tyN d = some a) : TyX K H v (.type a) := by
  subst hK
  cases r with
  | non => cases h; exact .base .non
  | bl b => cases h; exact .base (.bl b)
  | int i => cases h; exact .base (.int i)
  | str s => cases h; exact .base (.str s)
  | tup h1 h2 =>
    cases h
    rcases c.sqT h1 with (q | ⟨o, q⟩) | ⟨o, _, _, q, q2, _⟩
    · exact .base (.tup q)
    · exact .fTuple q
    · exact .kTuple q q2
  | lst h1 h2 => cases h; exact .base (.lst (c.sub _ _ h1))
  | ro h1 h2 =>
    cases h
    rcases c.sqL h1 with (q | ⟨o, q⟩) | ⟨o, _, _, q, q2, _⟩
    · exact .base (.lst q)
    · exact .base (.frz q)
    · exact .kList q q2
  | cell e =>
    cases h
    obtain ⟨ds, q⟩ := hl _ rfl
    obtain ⟨b, xs, e1, _, e2, _⟩ := c.cell (.cell e) q
    cases e1
    exact .base (.lst e2)
  | exc _ _ _ _ _ => cases h
  | dic h1 => cases h; exact .base (.dK (c.sub _ _ h1))
  | ty n => cases h
  | cls _ => cases h
  | fn _ _ => cases h

theorem DV.ty_ {g : Gx} {S : Hp} {ρ : List Addr} {v : V} {n : String} (h : DV g S ρ v (.ty n)) : v = .ty n := by cases h; rfl
/-- where an exception's object, its fields stand -/
theorem Cfg.excAt {g : Gx} {S F H : Hp} {ρ : List Addr} {st : Sto} {v : V} {c : Str} {fs : List D} (cf : Cfg g S ρ F st H) (r : DV g S ρ v (.exc c fs)) :
    ∃ (a d C : Addr) (vs : List V), v = .ref a ∧ g.mg c = some (.ref C) ∧ H a = some (XO C d a) ∧ H d = some (.xd ((g.xa c).zip vs)) ∧ vs.length = (g.xa c).length ∧ DVs g S ρ vs fs := by
  cases r with
  | exc h1 h2 h3 h4 h5 => exact ⟨_, _, _, _, rfl, h2, cf.sub _ _ h1, cf.sub _ _ h3, h4, h5⟩
theorem xo_inst {P : Program} {w : World} {H : Hp} {h : Heap} {a d C : Addr} {fs : List (Str × V)} (ok : HOk P w H h) (e : H a = some (XO C d a)) (ed : H d = some (.xd fs)) :
    ∃ oe od mA, PySem.W.InstAt h a oe C (some od) ∧ h.Ns1 d mA ∧ h.get? d = some od ∧ (∀ f, RelO (fs.lookup f) (mA f)) ∧ (∀ n, PySem.W.lookIn n od = some (mA n)) := by
  obtain ⟨⟨oe, vs, h1, h2, h3⟩, _, _⟩ := ok a _ e
  obtain ⟨mA, hns, rel⟩ := (show ObjOk P w H h d (.xd fs) from ok d _ ed)
  obtain ⟨od, ho, hl⟩ := lookIn_ns hns
  exact ⟨oe, od, mA, ⟨h1, h2.1, by unfold PySem.W.notCls; rw [h3] <;> rfl, by rw [h2.2]; exact ho⟩, hns, ho, rel, hl⟩
section
variable {X : Cx} {g : Gx} {W : WX} {pos : Pos}
theorem okIsi {sub : Str → Str → Option Bool} (hK : Gok X g) (hs : SubOk X sub) : CallR X (.builtin "isinstance") (rDN g (opIsi sub)) := by
  rintro pins s σ H xs us Q I r ⟨ds, r', S, ρ, F, st, c, dx, ho, q⟩
  have base : ∀ (v : V) (d : D) (a b : String) (k : Bool), xs = [v, .ty b] → DV g S ρ v d → (∀ n, d = .cell n → ∃ ds, st[n]? = some (some (.lst ds))) → tyN d = some a → isiB a b = some k → r' = .bl k → wpAny (model X.prog X.w) X.A (call (.builtin "isinstance") us) (EP X pins σ Q) X.xe s := by
    intro v d a b k e rd hl ht hk er
    subst e
    subst er
    exact call_isi pins s σ H _ us Q I r ⟨v, .ty b, .type a, .type b, k, rfl, .ty b, tyN_ok hK.K c rd hl ht, isiB_ok ht hk, q _ S ρ H (Le.refl _ _) c (.bl k)⟩
  unfold opIsi at ho
  split at ho
  · rename_i c1 fs c2
    obtain ⟨v, w, rfl, d1, d2⟩ := dx.two_
    obtain ⟨a, d, C, vs, rfl, h1, h2, h3, _, _⟩ := c.excAt d1
    cases d2 with
    | @cls _ C2 h4 =>
      cases hb : sub c1 c2 with
      | none => rw [hb] at ho; cases ho
      | some b =>
        rw [hb] at ho
        cases ho
        obtain ⟨k1, E⟩ := hs c1 c2 b C C2 hb (hK.mg ▸ h1) (hK.mg ▸ h4)
        cases r with
        | cons rx rr =>
          cases rr with
          | cons rt rr =>
            cases rr
            cases rx
            cases rt
            obtain ⟨oe, od, mA, J, _⟩ := xo_inst I.hok h2 h3
            exact PySem.W.kia_one (PySem.W.kitx_exc (od := some od) (by obtain ⟨cd, hc, _⟩ := PySem.W.any_some E.hd; rw [hc]; rfl) E.hg E.hk E.hs E.ha E.hn E.ht E.hm) I.kIn J k1 (fun z => nomatch z)
              fun tk => ⟨.bl b, H, I.kept (t' := tk) fun _ _ z => z, rfl, q _ S ρ H (Le.refl _ _) c (.bl b)⟩
  · rename_i n b
    split at ho
    · rename_i zs hz
      cases hk : isiB "list" b with
      | none => rw [hk] at ho; cases ho
      | some k =>
        rw [hk] at ho
        cases ho
        obtain ⟨v, w, rfl, d1, d2⟩ := dx.two_
        obtain rfl := d2.ty_
        exact base v _ "list" b k rfl d1 (fun m e => by cases e; exact ⟨zs, hz⟩) rfl hk rfl
    · cases ho
  · rename_i d b hne
    cases ht : tyN d with
    | none => rw [ht] at ho; cases ho
    | some a =>
      rw [ht] at ho
      dsimp only at ho
      cases hk : isiB a b with
      | none => rw [hk] at ho; cases ho
      | some k =>
        rw [hk] at ho
        cases ho
        obtain ⟨v, w, rfl, d1, d2⟩ := dx.two_
        obtain rfl := d2.ty_
        exact base v _ a b k rfl d1 (fun m e => by subst e; exact (hne m rfl).elim) ht hk rfl
  · cases ho
/-- a built-in type as a value, a class of the program -/
theorem fe_tyv {x : Str} {T : String} (hm : X.mg x = none) (hg : Gl X x := by rfl) (hv : bootBuiltins x = some (.type T) := by decide +kernel) (hn : x ≠ "__name__" := by decide) (hd : (x == ("__debug__" : Str)) = false := by decide) : PE X (.Name x pos) (tF g W (eC (.ty T))) :=
  (pe_bltn (v := .ty T) hg hm hv rfl hn hd).imp fun σ H Q ⟨_, S, ρ, _, _, _, hc, h⟩ => h.ok_ hc (.ty T)
theorem fe_clsv {x : Str} {C : Addr} (hK : Gok X g) (hm : X.mg x = some (.ref C)) (hg : Gl X x := by rfl) (hd : (x == ("__debug__" : Str)) = false := by decide) : PE X (.Name x pos) (tF g W (eC (.cls x))) :=
  fe_glob hK hm (fun S ρ => ⟨.ref C, rfl, .cls (by rw [hK.mg]; exact hm)⟩) hg hd
/-- an exception's field -/
@[simp] def kXa (xa : Str → List Str) (n : Str) (d : D) (st : Sto) : Res D := match d with
  | .exc c fs => Res.of (((xa c).zip fs).lookup n) st
  | _ => .bad
@[simp] def eXa (xa : Str → List Str) (n : Str) (f : EF) : EF := fun γ st => (f γ st).bind (kXa xa n)
theorem zip_look {g : Gx} {S : Hp} {ρ : List Addr} {n : Str} : ∀ {ns : List Str} {vs : List V} {fs : List D} {d : D}, DVs g S ρ vs fs → (ns.zip fs).lookup n = some d → ∃ v, (ns.zip vs).lookup n = some v ∧ DV g S ρ v d
  | [], _, _, _, _, e => by simp at e
  | m :: ns, _, _, d, .nil, e => by simp at e
  | m :: ns, _, _, d, .cons a b, e => by
    simp only [List.zip_cons_cons, List.lookup] at e ⊢
    cases q : n == m with
    | true => rw [q] at e; cases e; exact ⟨_, rfl, a⟩
    | false => rw [q] at e; exact zip_look b e
theorem fe_xattr {e : Expr} {f : EF} {n : Str} (hK : Gok X g) (hx : ∀ c C, n ∈ g.xa c → X.mg c = some (.ref C) → XfC X.K C ∧ PySem.W.findIn X.K (.ref C) n = some none) (he : PE X e (tF g W f)) (hb : attributeBase e n X.env (eval e X.env) = eval e X.env := by rfl) :
    PE X (.Attribute e n pos) (tF g W (eXa g.xa n f)) := by
  refine ⟨fun pins s σ H Q I h => ?_⟩
  have h' : tG g W (fun S ρ => DV g S ρ) (fun γ st => (f γ st).bind ((fun _ => kXa g.xa n) γ)) σ H Q := h
  refine attr_of hb (thn (he.run pins s σ H _ I (tG_then (R := fun S ρ => DV g S ρ) (k := fun _ => kXa g.xa n) h')) fun u s1 hh => ?_)
  obtain ⟨x, H1, I1, rx, γ, S, ρ, F, st, d, he1, c1, rd, h1⟩ := hh
  dsimp only [kXa] at h1
  split at h1
  · rename_i c fs
    cases hl : ((g.xa c).zip fs).lookup n with
    | none => rw [hl] at h1; exact h1.elim
    | some dv =>
      rw [hl] at h1
      obtain ⟨a, d, C, vs, rfl, e1, e2, e3, e4, e5⟩ := c1.excAt rd
      obtain ⟨v, hv, rv⟩ := zip_look e5 hl
      have hmem : n ∈ g.xa c := by
        have z := PySem.mem_of_lookup hv
        exact (List.of_mem_zip z).1
      obtain ⟨T, hno⟩ := hx c C hmem (hK.mg ▸ e1)
      cases rx
      obtain ⟨oe, od, mA, J, hns, ho, rel, hlk⟩ := xo_inst I1.hok e2 e3
      obtain ⟨w, hu, ru⟩ := RelO.some_of (v := v) (o := mA n) (by rw [← hv]; exact rel n)
      exact HandSPX.exc_get I1.kIn J T.ga T.gg T.exC (PySem.W.findObj_own T.hdC hno rfl (by rw [hlk, hu])) (handed_of ru) ⟨v, H1, I1.tok _, ru, h1.ok_ c1 rv⟩
  · exact h1.elim
end
end FL
end
section
set_option Elab.async false
set_option linter.all false
set_option maxRecDepth 100000
set_option maxHeartbeats 2000000
namespace FL
open PySem PySem.Spec PyProof.Rows L2 LamX
/-! ## an exception that is kept behind its except suite -/
section
variable {X : Cx} {pins : List (Addr × Obj)} {σ : L2.St} {H : Hp} {s : Shared}
/-- an object of no one's, new since the entry, is tracked from now on -/
theorem inv_take {a : Addr} {o : HO} (J : Inv X pins σ H s) (h0 : X.s_0.heap.get? a = none) (hn : H a = none) (hL : a ≠ X.env.locals) (hC : ∀ x c, X.env.cells.lookup x = some c → c ≠ a) (hP : ∀ p ∈ X.pn ++ pins, p.1 ≠ a)
    (new : ObjOk X.prog X.w (upd H a o) s.heap a o) : Inv X pins σ (upd H a o) s := by
  have ne : ∀ b u, H b = some u → b ≠ a := fun b u e => ne_of_none e hn
  have bs : Un X.fs X.ex X.H_0 (upd H a o) X.s_0.heap s.heap := by
    refine ⟨J.base.keep, J.base.slot, fun b u e n hx => ?_, J.base.there, fun b xs e => ?_, fun b u v e => ?_, fun b ps e => ?_⟩
    · have z : b ≠ a := fun z => by rw [z, h0] at e; cases e
      rw [upd_ne z]
      exact J.base.free b u e n hx
    · have z := J.base.tups b xs e
      rw [upd_ne (ne _ _ z)]
      exact z
    · have z := J.base.frzs b u v e
      rw [upd_ne (ne _ _ z)]
      exact z
    · obtain ⟨more, z⟩ := J.base.tbls b ps e
      exact ⟨more, by rw [upd_ne (ne _ _ z)]; exact z⟩
  refine ⟨J.ok, J.os, J.bare, bs, J.loc, J.cell, ?_, fun x c e => ?_, fun p hp => ?_, HOk.laidN J.hok (fun _ _ e => e) hn new, J.len⟩
  · rw [upd_ne (Ne.symm hL)]; exact J.free
  · rw [upd_ne (hC x c e)]; exact J.freeC x c e
  · obtain ⟨e1, e2, e3⟩ := J.pin p hp
    exact ⟨e1, by rw [upd_ne (hP p hp)]; exact e2, e3⟩
end
/-- what the clause wishes of an exception: it stands in slot j from now on -/
def wKeep (K : PySem.W.Frag) (c : Value) (i j : Nat) (Wout : WX) (D' : Ends) : WX := fun cls d σ H =>
  ∃ b, PySem.W.exmOne K cls c = some b ∧ (b = true → ∀ a, H a = none → ∃ C dd, cls = .ref C ∧ d = some dd ∧ D'.nx (((σ.set i (some (.ref a))).set j (some (.ref a))).set i none) (upd H a (XO C dd a))) ∧ (b = false → Wout cls d σ H)
section
variable {X : Cx} {x n m : Str} {c : Value} {i j : Nat} {body : List Stmt} {np mp np2 ap pos pos' : Pos} {tb : WX → TS} {Wout : WX}
theorem ps_keep (hs : X.stack = X.env :: X.outer) (hf : X.env.frame = some X.env.locals) (hex : X.ex = []) (hN : X.N.Nodup) (hi : X.N[i]? = some n) (hj : X.N[j]? = some m) (hln : X.env.kindOf n = some .local) (hlm : X.env.kindOf m = some .local) (hc : Names X x c) (tk : Takes X Wout)
    (hb : ∀ (W : WX) (pn : List (Addr × Obj)) (xe : Value → Shared → Prop), Takes (X.tr pn xe) W → PassesOwn (model X.prog X.w) X.A X.env xe → PSs (X.tr pn xe) body (tb W))
    (hd1 : (n == ("__debug__" : Str)) = false := by decide) (hd2 : (n == ("__classdict__" : Str)) = false := by decide)
    (hsw : swapsWith (.Name n np2) (some (.Name m mp)) ap.line X.env = pure false := by rfl) :
    PS X (.Try body [.ExceptHandler (some (.Name x np)) (some n) [.Assign [.Name m mp] (.Name n np2) ap] pos'] [] [] pos) (fun D' σ H => tb (wKeep X.K c i j Wout D') D' σ H) := by
  refine ⟨fun pins s σ H D' I h => ?_⟩
  have ok := I.ok
  have hfr : X.A.frames = some (X.env :: X.outer) := by rw [ok.frames, hs]
  have hloc : Loc X.env.scope n := .inl hln
  refine wpAny_Try_except ?_
  refine wpAny_mono ((hb (wKeep X.K c i j Wout D') (X.pn ++ pins) (fun e s₁ => wpAny (model X.prog X.w) X.A (noteFrame e X.env) (fun _ s₂ => wpAny (model X.prog X.w) X.A (setFlight e none) (fun _ s₃ =>
    wpAny (model X.prog X.w) X.A (handleBy e X.env [.ExceptHandler (some (.Name x np)) (some n) [.Assign [.Name m mp] (.Name n np2) ap] pos']) (SP X pins D') X.xe s₃) X.xe s₂) X.xe s₁) (fun u s' xx => ?_) PassesOwn.looking).run [] s σ H D' (I.toTry _) h) (fun f s1 hsp => ?_) (fun e s1 he => he)
  · obtain ⟨a, B, sI, pins', σ', H', cls, d, rfl, J', nb, up, sky, na, os, ag, b, hb1, hyes, hno⟩ := xx
    have J : Inv X pins σ' H' sI := J'.ofTry ok
    have sky' : Sky B (X.env :: X.outer) a (Zc cls d) X.env.locals s'.heap := by rw [← hs]; exact sky
    have nB : B.get? a = none := by
      rcases sky' with ⟨_, q, _⟩ | ⟨_, q, _⟩ | ⟨_, q, _⟩ <;> exact q
    show wpAny (model X.prog X.w) X.A (noteFrame (.ref a) X.env) _ _ _
    refine Sky.land Zc.steady hfr hf sky' fun h3 fl3 up3 => ?_
    have J3 : Inv X pins σ' H' { s' with heap := h3 } := J.landed nb fl3.1 (up.trans up3) os ag
    obtain ⟨oe3, vs3, he3, hz3, hd3⟩ := fl3.there
    have notFr : ∀ {h : Heap} {o : Obj} {vs : Array Value}, h.FunFrames B (X.env :: X.outer) → h.get? a = some o → o.data = .fields vs → a ∉ frs (X.env :: X.outer) := fun {h o vs} ff e dd hm => by
      obtain ⟨_, o', e', hnf⟩ := ff.mem hm
      rw [e] at e'; cases e'
      exact hnf _ dd
    have nfr := notFr fl3.2.2.1 he3 hd3
    have nL : a ≠ X.env.locals := fun z => nfr (List.mem_filterMap.mpr ⟨X.env, List.mem_cons_self, by rw [hf, z]⟩)
    have nF : a ∉ X.fs := fun hm => by
      obtain ⟨e, he, q⟩ := List.mem_filterMap.mp hm
      exact nfr (List.mem_filterMap.mpr ⟨e, List.mem_cons_of_mem _ he, q⟩)
    have nfs : a ∉ frs X.stack := by rw [hs]; exact nfr
    -- what stood ahead of it is not it
    have inI : ∀ (b : Addr) (o : Obj), sI.heap.get? b = some o → b ≠ a := fun b o e z => by
      have q := nb b o e (by rw [z]; exact nfs)
      rw [z, nB] at q
      cases q
    have new0 : X.s_0.heap.get? a = none := by
      cases q : X.s_0.heap.get? a with
      | none => rfl
      | some o =>
        obtain ⟨o', e⟩ := J.base.there a o q (by rw [hex]; exact fun z => nomatch z)
        exact absurd rfl (inI a o' e)
    have newC : ∀ y c', X.env.cells.lookup y = some c' → c' ≠ a := fun y c' e => by
      obtain ⟨v, o, ho, _⟩ := J.cell y c' e
      exact inI c' o ho
    have newP : ∀ p ∈ X.pn ++ pins, p.1 ≠ a := fun p hp => inI p.1 _ (J.pin p hp).1
    have S3 := J3.suite he3 hd3 na nL nF
    refine wpAny_handleBy_cons (codeAny_handlers_test ?_) (by intro q; cases q)
    have LT : PySem.W.Looks (model X.prog X.w) h3 (typeOf (.ref a)) cls := fun A Q E s k q => wpAny_typeOf_ref (k _ _ he3) (by rw [hz3.1]; exact q)
    have LM := PySem.W.exm_one (M := model X.prog X.w) (J3.kIn) LT hb1
    have test : ∀ {Q : Value → Shared → Prop} {E : Value → Shared → Prop}, Q c { s' with heap := h3 } → wpAny (model X.prog X.w) (X.A.mark (some (.ref a))) (eval (.Name x np) X.env) Q E { s' with heap := h3 } := fun {Q E} q => by
      obtain ⟨hg, hdbg, hm | ⟨hm, hv, hnn⟩⟩ := hc
      · exact ld_glob (X := X.suite a ((a, oe3) :: (X.pn ++ pins))) S3 hg hm q hdbg
      · exact ld_blt (X := X.suite a ((a, oe3) :: (X.pn ++ pins))) S3 hg hm hv q hnn hdbg
    refine test (LM.here ?_)
    cases b with
    | true =>
      refine codeAny_handlers_suite_as ?_
      refine HandSPX.lands_againZ fl3 fun h4 fl4 up4 => ?_
      have J4 : Inv X pins σ' H' { s' with heap := h4 } := J.landed nb fl4.1 ((up.trans up3).trans up4) os ag
      obtain ⟨oe4, vs4, he4, hz4, hd4⟩ := fl4.there
      have S4 := J4.suite he4 hd4 na nL nF
      obtain ⟨C, dd, ec, ed, hq⟩ := hyes rfl a na
      subst ec
      subst ed
      refine store_ok (X := X.suite a ((a, oe4) :: (X.pn ++ pins))) (v := .ref a) S4 hN hi hloc rfl (fun s5 S5 => ?_) (.inr hln)
      have hsz : i < σ'.length := by
        have z := J.len
        rw [z]
        exact (List.getElem?_eq_some_iff.mp hi).1
      have hvar : PE (X.suite a ((a, oe4) :: (X.pn ++ pins))) (.Name n np2) (tVar i) := pe_var (X := X.suite a ((a, oe4) :: (X.pn ++ pins))) hi (.inl hln) hd1 hd2
      have hset := pss_one (ps_set (X := X.suite a ((a, oe4) :: (X.pn ++ pins))) (i := j) (x := m) (e := .Name n np2) (pos' := mp) (pos := ap) hN hj (Or.inl hlm) hvar hsw (.inr hlm))
      refine wpAny_mono (hset.run [] s5 _ H' { nx := fun σ6 H6 => σ6 = ((σ'.set i (some (.ref a))).set j (some (.ref a))) ∧ H6 = H', rt := fun _ _ => False, bk := fun _ _ => False, ct := fun _ _ => False } S5 ?_) (fun f s6 hsp => ?_) (fun _ _ z => False.elim z)
      · exact ⟨.ref a, List.getElem?_set_self hsz, rfl, rfl⟩
      cases f with
      | next =>
        obtain ⟨σ6, H6, S6, e6, e6'⟩ := hsp
        subst e6
        subst e6'
        have U6 := (S6.unsuite ok).pins_of (pins' := (a, oe4) :: pins) fun p hp => by
          rcases List.mem_cons.mp hp with e | hp
          · rw [e]; exact S6.pin (a, oe4) (List.mem_append_left _ List.mem_cons_self)
          · exact S6.pin p (List.mem_append_left _ (List.mem_cons_of_mem _ (List.mem_append_right _ hp)))
        refine gone_ok U6 hN hi hln fun s7 J7 => ?_
        obtain ⟨p1, p2, _⟩ := J7.pin (a, oe4) (List.mem_append_right _ List.mem_cons_self)
        have J8 : Inv X pins _ _ s7 := J7.pins_of fun p hp => J7.pin p (List.mem_append_right _ (List.mem_cons_of_mem _ hp))
        refine ⟨_, _, inv_take J8 new0 p2 nL newC newP ?_, hq⟩
        exact ⟨⟨oe4, vs4, p1, hz4, hd4⟩, ⟨oe4, p1⟩, fun h1 h2 ⟨oe, vs, q1, q2, q3⟩ st => ⟨oe, vs, st _ q1, q2, q3⟩⟩
      | brk =>
        obtain ⟨_, _, _, q6⟩ := hsp
        exact q6.elim
      | cont =>
        obtain ⟨_, _, _, q6⟩ := hsp
        exact q6.elim
      | ret u =>
        obtain ⟨_, _, _, _, _, q6⟩ := hsp
        exact q6.elim
    | false =>
      show wpAny _ X.A (handleBy (.ref a) X.env []) _ _ _
      refine wpAny_handleBy_nil ?_
      obtain ⟨k1, k2, k3, oe, vs, T, oT, ts', he, hz, hd, h1, hr⟩ := id fl3
      unfold PySem.passOn
      refine wpAny_bind (wpAny_field he hd h1 ?_)
      rw [if_neg (show ¬ ((Value.ref T == Value.none) = true) from by simp)]
      have fin : wpAny (model X.prog X.w) X.A (setFlight (.ref a) X.env.frame) (fun _ s4 => wpAny (model X.prog X.w) X.A (throw (.ref a) : Sem Flow) (SP X pins D') X.xe s4) X.xe { s' with heap := h3 } := by
        rw [hf]
        refine HandSPX.setFlight_upZ fl3 fun h4 hh4 up4 => wpAny_throw (tk _ _ ?_)
        exact ⟨a, B, sI, pins, σ', H', cls, d, rfl, J, nb, (up.trans up3).trans up4, .inr (.inr (by rw [hs]; exact hh4)), na, os, ag, hno rfl⟩
      first
        | exact wpAny_bind (wpAny_pure (wpAny_bind fin))
        | exact wpAny_bind fin
  · cases f with
    | next =>
      obtain ⟨σ', H', J', q⟩ := hsp
      exact wpAny_execs_nil ⟨σ', H', J'.ofTry ok, q⟩
    | brk =>
      obtain ⟨σ', H', J', q⟩ := hsp
      exact ⟨σ', H', J'.ofTry ok, q⟩
    | cont =>
      obtain ⟨σ', H', J', q⟩ := hsp
      exact ⟨σ', H', J'.ofTry ok, q⟩
    | ret u =>
      obtain ⟨v, σ', H', J', r, q⟩ := hsp
      exact ⟨v, σ', H', J'.ofTry ok, r, q⟩
end
/-- try: fb / except c as n: m = n -/
@[simp] def kKeep (isx : Str → Option Bool) (i j : Nat) : Fl → Fl
  | .ex c fs γ st => match isx c with
    | some true => .nx (((γ.set i (some (.exc c fs))).set j (some (.exc c fs))).set i none) st
    | some false => .ex c fs γ st
    | none => .bad
  | .nx γ st => .nx γ st
  | .rt d st => .rt d st
  | .bk γ st => .bk γ st
  | .ct γ st => .ct γ st
  | .bad => .bad
@[simp] def sKeep (isx : Str → Option Bool) (i j : Nat) (fb : SF) : SF := fun γ st => kKeep isx i j (fb γ st)
section
variable {X : Cx} {g : Gx} {W : WX} {x n m : Str} {c : Value} {i j : Nat} {body : List Stmt} {np mp np2 ap pos pos' : Pos} {fb : SF} {isx : Str → Option Bool}
theorem fs_keep (hK : Gok X g) (hx : ∀ (c1 : Str) (C : Addr) (b : Bool), isx c1 = some b → X.mg c1 = some (.ref C) → PySem.W.exmOne X.K (.ref C) c = some b) (tk : Takes X W) (hN : X.N.Nodup) (hi : X.N[i]? = some n) (hj : X.N[j]? = some m) (hc : Names X x c)
    (hb : ∀ (W : WX) (pn : List (Addr × Obj)) (xe : Value → Shared → Prop), Takes (X.tr pn xe) W → PassesOwn (model X.prog X.w) X.A X.env xe → PSs (X.tr pn xe) body (tS g W fb))
    (hs : X.stack = X.env :: X.outer := by rfl) (hf : X.env.frame = some X.env.locals := by rfl) (hex : X.ex = [] := by rfl) (hln : X.env.kindOf n = some .local := by rfl) (hlm : X.env.kindOf m = some .local := by rfl)
    (hd1 : (n == ("__debug__" : Str)) = false := by decide) (hd2 : (n == ("__classdict__" : Str)) = false := by decide)
    (hsw : swapsWith (.Name n np2) (some (.Name m mp)) ap.line X.env = pure false := by rfl) :
    PS X (.Try body [.ExceptHandler (some (.Name x np)) (some n) [.Assign [.Name m mp] (.Name n np2) ap] pos'] [] [] pos) (tS g W (sKeep isx i j fb)) := by
  refine (ps_keep (tb := fun W => tS g W fb) hs hf hex hN hi hj hln hlm hc tk hb hd1 hd2 hsw).imp ?_
  rintro D' σ H ⟨γ, S, ρ, F, st, he, hcf, hr⟩
  refine ⟨γ, S, ρ, F, st, he, hcf, ?_⟩
  dsimp only [sKeep] at hr
  cases q : fb γ st with
  | nx γ1 st1 => rw [q] at hr; exact hr
  | rt d st1 => rw [q] at hr; exact hr
  | bk γ1 st1 => rw [q] at hr; exact hr
  | ct γ1 st1 => rw [q] at hr; exact hr
  | bad => rw [q] at hr; exact hr
  | ex c1 fs γ1 st1 =>
    rw [q] at hr
    rintro σ1 cls dd S1 ρ1 H1 le he1 c1' ⟨C, d, vs, h1, rfl, rfl, h2, h3, h4⟩
    dsimp only [kKeep] at hr
    cases z : isx c1 with
    | none => rw [z] at hr; exact hr.elim
    | some b =>
      rw [z] at hr
      refine ⟨b, hx c1 C b z (hK.mg ▸ h1), fun hb a ha => ?_, fun hb => ?_⟩
      · subst hb
        refine ⟨C, d, rfl, rfl, ?_⟩
        obtain ⟨c2, le2⟩ := c1'.laid (p := a) (o := XO C d a) ha
        have dx : DV g (upd S1 a (XO C d a)) ρ1 (.ref a) (.exc c1 fs) := .exc upd_same h1 (le2.im _ _ h2) h3 (h4.mono le2)
        exact hr _ _ _ _ (le.trans le2) ((((he1.mono le2).set i dx).set j dx).wipe i) c2
      · subst hb
        exact hr σ1 _ _ S1 ρ1 H1 le he1 c1' ⟨C, d, vs, h1, rfl, rfl, h2, h3, h4⟩
end
end FL
end
section
set_option Elab.async false
set_option linter.all false
set_option maxRecDepth 100000
set_option maxHeartbeats 2000000
namespace FL
open PySem PySem.Spec PyProof.Rows L2 LamX
/-! ## a lambda handed to a def that calls it -/
/-- the lambda's names: its own ones (the default's) are not the maker's -/
structure LamD (N : List Str) (sc scope : Scope) : Prop where
  kind : scope.kind = .function
  co : scope.isCoroutine = false
  gen : scope.isGenerator = false
  own : ∀ y ∈ scope.names, (y.2 = .local → y.1 ∉ N) ∧ y.2 ≠ .cell
  free : ∀ y ∈ scope.names, y.2 = .free → sc.names.lookup y.1 = some .cell ∨ sc.names.lookup y.1 = some .free
def lamDB (N : List Str) (sc scope : Scope) : Bool :=
  decide (scope.kind = .function) && !scope.isCoroutine && !scope.isGenerator && scope.names.all fun y => (!decide (y.2 = .local) || !N.contains y.1) && !decide (y.2 = .cell) && (!decide (y.2 = .free) || decide (sc.names.lookup y.1 = some .cell) || decide (sc.names.lookup y.1 = some .free))
theorem lamD_by {N : List Str} {sc scope : Scope} (h : lamDB N sc scope = true) : LamD N sc scope := by
  unfold lamDB at h
  simp only [Bool.and_eq_true, Bool.or_eq_true, Bool.not_eq_true', decide_eq_true_eq, decide_eq_false_iff_not, List.all_eq_true] at h
  obtain ⟨⟨⟨h1, h2⟩, h3⟩, h4⟩ := h
  refine ⟨h1, h2, h3, fun y hy => ⟨fun e => ?_, (h4 y hy).1.2⟩, fun y hy e => ?_⟩
  · rcases (h4 y hy).1.1 with z | z
    · exact absurd e z
    · intro hm
      rw [List.contains_iff_mem.mpr hm] at z
      cases z
  · rcases (h4 y hy).2 with (z | z) | z
    · exact absurd e z
    · exact .inl z
    · exact .inr z
theorem LamD.has {X : Cx} {scope : Scope} (L : LamD X.N X.env.scope scope) (ok : X.Ok) : ∀ y ∈ scope.names, y.2 = .free → ∃ c, X.env.cells.lookup y.1 = some c := fun y hy e => by
  rcases L.free y hy e with k | k
  · exact ok.has _ (.inl k)
  · exact ok.has _ (.inr k)
/-- the lambda as it stands behind its making -/
def LamAt (X : Cx) (params : Arguments) (body : Expr) (scope : Scope) (f c' : Addr) (H : Hp) (s : Shared) : Prop :=
  ∃ (dV doc pm ctv : Value) (dv : List Value) (binds : List (Str × Value)), s.heap.get? f = some (PySem.W.kdv_obj "<lambda>" (X.env.qual ++ "<lambda>") params (.expr body) scope (cloFrom X.env.cells scope.names []) dV doc pm c' ctv) ∧ H f = none ∧ f ∉ frs X.stack ∧
    (∀ t, dV = .ref t → s.heap.get? t = some (PySem.W.kdv_tup dv) ∧ H t = none ∧ t ∉ frs X.stack) ∧
    (∀ s1 : Shared, (∀ t, dV = .ref t → s1.heap.get? t = some (PySem.W.kdv_tup dv)) → BindsTo s1 (PySem.W.kdv_fn "<lambda>" (X.env.qual ++ "<lambda>") params (.expr body) scope (cloFrom X.env.cells scope.names []) dV doc pm (.ref c') ctv) ⟨[], []⟩ binds) ∧
    (∀ y ∈ binds, scope.names.lookup y.1 = some .local)
section
variable {X : Cx} {pins : List (Addr × Obj)} {σ : L2.St} {H HZ : Hp} {s s1 : Shared}
theorem lam_startD {A : Around} {outer : List Env} {E : XK} {scope : Scope} {f c' : Addr} {h₁ : Heap} {tk : Nat} {binds : List (Str × Value)} (I : Inv X pins σ H s) (L : LamD X.N X.env.scope scope) (e0 : Env0 X.prog X.w X.K X.mg X.base A outer s1 HZ) (hd : A.handled = none)
    (un : Un (frs X.stack) [] H HZ s.heap s1.heap) (hns : h₁.Ns s1.heap.objs.size fun y => binds.reverse.lookup y) (kp : ∀ b o, s1.heap.get? b = some o → h₁.get? b = some o) :
    Inv (lamCx X A outer s1 HZ E scope f c') [] σ HZ { s1 with heap := h₁, toks := tk } := by
  have hfree := L.has I.ok
  have cm : ∀ {y c}, (cloFrom X.env.cells scope.names []).lookup y = some c → X.env.cells.lookup y = some c := fun {y c} e => by
    rcases cloFrom_mem (PySem.mem_of_lookup e) with hm | ⟨h1, h2⟩
    · cases hm
    · obtain ⟨c1, hc⟩ := hfree _ h1 rfl
      have hc : X.env.cells.lookup y = some c1 := hc
      have e2 : c = c1 := by
        rw [h2, hc] <;> rfl
      rw [e2]
      exact hc
  have look : ∀ {y}, scope.names.lookup y = some .free → ∃ c, (cloFrom X.env.cells scope.names []).lookup y = some c := fun {y} hl => by
    have hy : (y, NameKind.free) ∈ scope.names := PySem.mem_of_lookup hl
    exact mem_lookup (cloFrom_has (cells := X.env.cells) (acc := []) hy)
  have cellK : ∀ {c : Addr} {v : Option Value}, H c = none → s.heap.IsCell c v → h₁.IsCell c v := fun {c v} n ⟨o, ho, hd⟩ => by
    obtain ⟨sl, q⟩ := un.any ho n (by simp)
    exact ⟨_, kp _ _ q, hd⟩
  have noA : ∀ b : Addr, b ∉ (lamCx X A outer s1 HZ E scope f c').ex := fun b z => absurd (show b ∈ ([] : List Addr) from z) (by simp)
  refine ⟨⟨e0.mod, L.kind, rfl, rfl, Nat.le_refl _, fun y z c e1 e2 => I.ok.inj y z c (cm e1) (cm e2), fun y hy => ?_, fun y c z _ => ?_, fun _ => hd, Around.frames_deeper e0.frames, .inr ⟨rfl, rfl⟩, fun b z => absurd z (noA b), e0.bs, e0.bsz, fun b _ _ => noA b,
      fun b z => absurd z (noA b), e0.funs, e0.frf⟩,
    rfl, e0.bare, Un.kept kp, ⟨_, hns, fun i y v e1 e2 e3 => ?_⟩, fun y c e => ?_, e0.hok.fresh (Nat.le_refl _), fun y c e => ?_, fun q hq => absurd (show q ∈ ([] : List (Addr × Obj)) ++ [] from hq) (by simp), e0.hok.kept kp, I.len⟩
  · have hy : scope.names.lookup y = some .cell ∨ scope.names.lookup y = some .free := hy
    rcases hy with hy | hy
    · exact absurd rfl (L.own _ (PySem.mem_of_lookup hy)).2
    · exact look hy
  · have z : false = true := z
    cases z
  · have e3 : Vis scope y := e3
    have e1 : X.N[i]? = some y := e1
    rcases e3 with k | k | k
    · exact absurd (List.mem_of_getElem? e1) ((L.own _ (PySem.mem_of_lookup k)).1 rfl)
    · exact absurd rfl (L.own _ (PySem.mem_of_lookup k)).2
    · obtain ⟨m, hn, hl⟩ := I.loc
      have hvis : Vis X.env.scope y := (L.free _ (PySem.mem_of_lookup k) rfl).elim (fun k => .inr (.inl k)) (fun k => .inr (.inr k))
      obtain ⟨w', r, q⟩ := hl i y v e1 e2 hvis
      obtain ⟨c2, h2⟩ := look k
      refine ⟨w', r, .inr ⟨.inr k, c2, h2, ?_⟩⟩
      have c1 := cm h2
      rcases q with ⟨k', _⟩ | ⟨_, c3, e', z⟩
      · have k' : X.env.scope.names.lookup y = some .local := k'
        rcases L.free _ (PySem.mem_of_lookup k) rfl with k2 | k2 <;> rw [show X.env.scope.names.lookup y = _ from k2] at k' <;> cases k'
      · rw [c1] at e'
        cases e'
        exact cellK (I.freeC y _ c1) z
  · obtain ⟨w', z⟩ := I.cell y c (cm e)
    exact ⟨w', cellK (I.freeC y c (cm e)) z⟩
  · obtain ⟨v, o, ho, hd⟩ := I.cell y c (cm e)
    exact un.free c o ho (I.freeC y c (cm e)) (by simp)
/-- the lambda called: what its body comes to where it was made -/
@[simp] def kAsk (f c : Addr) (q : Str) (σ : List (Option V)) (fE : EF) (st : Sto) : D → Res D
  | .fn f1 c1 q1 σ1 γ1 => if f1 = f ∧ c1 = c ∧ q1 = q ∧ σ1 = σ then fE γ1 st else .bad
  | _ => .bad
@[simp] def eAsk (i : Nat) (f c : Addr) (q : Str) (σ : List (Option V)) (fE : EF) : EF := fun γ st => match γ[i]? with
  | some (some d) => kAsk f c q σ fE st d
  | _ => .bad
theorem pe_ask {gx : Gx} {CXg : CXT} {Eg : XK} {Ng : List Str} {qg : Str} {sg : Scope} {g f c' : Addr} {cdg : Value} {params : Arguments} {body : Expr} {scope : Scope} {k i : Nat} {a : Str} {pn : List (Addr × Obj)} {xe : Value → Shared → Prop} {W : WX} {fE : EF} {p1 p2 : Pos}
    (I : Inv X pins σ H s) (L : LamD X.N X.env.scope scope) (LA : LamAt X params body scope f c' H s)
    (tk : Takes ((cxOf CXg X.prog X.w X.K X.mg X.base Ng qg sg g cdg X.A X.stack s H Eg).tr pn xe) W) (hr : Room (k + 1) (X.A.deeper (envOfC qg sg s.heap.objs.size g cdg))) (hgd : X.A.guards = some [])
    (hbody : ∀ (A : Around) (outer : List Env) (s : Shared) (H : Hp) (E : XK), Room k (A.deeper (lamEnv X scope s.heap.objs.size f c')) → A.guards = some [] → PE (lamCx X A outer s H E scope f c') body (tF gx (fun cls d _ H => E cls d H) fE))
    (hN : Ng[i]? = some a) (hv : Vis sg a) (hd : (a == ("__debug__" : Str)) = false := by decide) (hcd : (a == ("__classdict__" : Str)) = false := by decide) :
    PE ((cxOf CXg X.prog X.w X.K X.mg X.base Ng qg sg g cdg X.A X.stack s H Eg).tr pn xe) (.Call (.Name a p1) [] [] p2) (tF gx W (eAsk i f c' (X.env.qual ++ "<lambda>") σ fE)) := by
  refine ⟨fun pinsZ sZ σZ HZ Q IZ h => ?_⟩
  obtain ⟨γZ, S, ρ, F, st, he, hcf, hres⟩ := h
  unfold eAsk at hres
  split at hres
  case h_2 => exact hres.elim
  rename_i dz hdz
  unfold kAsk at hres
  split at hres
  case h_2 => exact hres.elim
  rename_i f1 c1 q1 σ1 γ1
  split at hres
  case isFalse => exact hres.elim
  rename_i hif
  obtain ⟨rfl, rfl, rfl, rfl⟩ := hif
  obtain ⟨v0, hs, rv0⟩ := he.2 i _ hdz
  cases rv0 with
  | fn hc0 hdo =>
  have hc := hcf.sub _ _ hc0
  have ht : tF gx (fun cls d _ H => W cls d σZ H) fE σ1 HZ Q := ⟨γ1, S, ρ, F, st, hdo.env, hcf, hres⟩
  obtain ⟨dV, doc, pm, ctv, dv, binds, hf, hfn, hfr, hdt, hbind, hloc⟩ := LA
  refine wpAny_Call_Name_kw (thn ((pe_var (pos := p1) (i := i) hN hv hd hcd).run pinsZ sZ σZ HZ (fun v H1 => v = .ref f1 ∧ H1 = HZ) IZ ⟨.ref f1, hs, rfl, rfl⟩) fun u s1 ⟨v, H1, I1, r1, q1⟩ => ?_)
  obtain ⟨ev, eH⟩ := q1
  subst ev
  rw [eH] at I1
  obtain rfl : u = Value.ref f1 := r1
  have kept : ∀ b o, s.heap.get? b = some o → H b = none → b ∉ frs X.stack → s1.heap.get? b = some o := fun b o e n nf => I1.base.keep b o e n nf (fun z => nomatch (show b ∈ ([] : List Addr) from z))
  have of1 := kept _ _ hf hfn hfr
  refine PySem.W.callWith_F0 ⟨_, _, _, _, of1⟩ ?_
  have un : Un (frs X.stack) [] H HZ s.heap s1.heap := I1.base
  obtain ⟨⟨oc, vs, t, hoc, hdc, hvc⟩, _, _⟩ := I1.hok _ _ hc
  have rc : codeAny (model X.prog X.w) (X.A.deeper (envOfC qg sg s.heap.objs.size g cdg)) (.call (.ref f1) ⟨[], []⟩) (CR (L2.CX X.prog X.w) (envOfC qg sg s.heap.objs.size g cdg :: X.stack) X.prog X.w HZ s1 Q (fun cls d H => W cls d σZ H)) s1 := by
    refine PySem.W.kla_callFunE hr.depth of1 rfl L.co L.gen rfl ⟨_, oc, vs, t, rfl, hoc, hdc, hvc⟩ ?_
    refine hbind s1 (fun t e => ?_) _ _ _ _ ?_
    · obtain ⟨d1, d2, d3⟩ := hdt t e
      exact kept _ _ d1 d2 d3
    refine wpAny_newFunctionEnv (fun y hy => (L.own y hy).2) hloc (fun h₁ hns hsb => ⟨I1.nolimit.fresh _ hsb, ?_⟩) L.kind
    show codeAny _ _ (.expr body (lamEnv X scope s1.heap.objs.size f1 _)) _ _
    have kp : ∀ b o, s1.heap.get? b = some o → h₁.get? b = some o := fun b o e => hsb.extBut b o (Nat.ne_of_lt (Heap.lt_size e)) (Heap.get?_push_of_some _ e)
    have J := lam_startD (E := fun cls d H => W cls d σZ H) (f := f1) (c' := c1) (tk := s1.toks + binds.length) (outer := envOfC qg sg s.heap.objs.size g cdg :: X.stack) (A := X.A.deeper (envOfC qg sg s.heap.objs.size g cdg)) I L I1.env0 hr.hd un hns kp
    refine PySem.W.kla_codeExpr (wpAny_mono ((hbody _ _ s1 HZ _ (hr.deeper _) hgd).run [] _ _ HZ Q J ht) (fun v s' hq => ?_) fun e s' hq => hq)
    obtain ⟨w', H', J', rv, q⟩ := hq
    exact ⟨w', H', J'.os, J'.bare, J'.base, J'.hok, rv, q⟩
  have hx := passAt tk σZ
  refine wpAny_call (codeAny_mono rc fun r s' hq => ?_)
  cases r with
  | error e => exact hx pinsZ HZ s1 e s' I1 hq
  | ok fl =>
    cases fl with
    | ret u => exact I1.after hq
    | next => exact False.elim hq
    | brk => exact False.elim hq
    | cont => exact False.elim hq
end
section
variable {X : Cx} {pins : List (Addr × Obj)} {σ : L2.St} {H : Hp} {s : Shared}
/-- what the making leaves: the table at P is longer, all else stands -/
def LamQ (X : Cx) (pins : List (Addr × Obj)) (σ : L2.St) (H : Hp) (T : List (Addr × Str)) (P : Addr) (params : Arguments) (body : Expr) (scope : Scope) (Q : Value → Shared → Prop) : Prop :=
  ∀ (f c' : Addr) (H1 : Hp) (s' : Shared), Inv X pins σ H1 s' → (∀ b o, b ≠ P → H b = some o → H1 b = some o) → Tabs T H1 → LamAt X params body scope f c' H1 s' → H1 c' = some (CodeO c' (X.env.qual ++ "<lambda>")) → Q (.ref f) s'
/-- the making rule, for one lambda text -/
def MkLam (X : Cx) (T : List (Addr × Str)) (P : Addr) (params : Arguments) (body : Expr) (scope : Scope) (pos : Pos) : Prop :=
  ∀ (pins : List (Addr × Obj)) (σ : L2.St) (H : Hp) (s : Shared) (E : Value → Shared → Prop) (Q : Value → Shared → Prop), Inv X pins σ H s → Tabs T H → LamQ X pins σ H T P params body scope Q →
    wpAny (model X.prog X.w) X.A (eval (.Lambda params body scope pos) X.env) Q E s
theorem fresh_frs (I : Inv X pins σ H s) : ∀ f, s.heap.objs.size ≤ f → f ∉ frs X.stack := fun f hf z => by
  rcases List.mem_cons.mp (I.stkSub _ z) with e | e
  · have h1 := I.lt
    rw [← e] at h1
    exact Nat.lt_irrefl _ (Nat.lt_of_lt_of_le h1 hf)
  · exact I.nofs hf e
theorem mk_tail {T : List (Addr × Str)} {c P : Addr} {params : Arguments} {body : Expr} {scope : Scope} {pos : Pos} {fl : Nat} {dV : Value} {dv : List Value} {binds : List (Str × Value)} {E : Value → Shared → Prop} {Q : Value → Shared → Prop} (I : Inv X pins σ H s) (L : LamD X.N X.env.scope scope) (TB : TabB X.base X.mg c P) (hcode : X.env.code = .ref c)
    (hm : (P, X.env.qual ++ "<lambda>") ∈ T) (hu : ∀ p ∈ T, p.1 = P → p.2 = X.env.qual ++ "<lambda>") (hT : Tabs T H)
    (hdt : ∀ t, dV = .ref t → s.heap.get? t = some (PySem.W.kdv_tup dv) ∧ H t = none ∧ t ∉ frs X.stack)
    (hb : ∀ (q : Str) (cl : List (Str × Addr)) (doc pm cv ctv : Value) (s1 : Shared), (∀ t, dV = .ref t → s1.heap.get? t = some (PySem.W.kdv_tup dv)) → BindsTo s1 (PySem.W.kdv_fn "<lambda>" q params (.expr body) scope cl dV doc pm cv ctv) ⟨[], []⟩ binds)
    (hloc : ∀ y ∈ binds, scope.names.lookup y.1 = some .local) (h : LamQ X pins σ H T P params body scope Q) :
    wpAny (model X.prog X.w) X.A (makeTail "<lambda>" (X.env.qual ++ "<lambda>") params (.expr body) scope X.env dV .none none pos fl) Q E s := by
  obtain ⟨ps, hP, ht, ha⟩ := hT _ hm
  have nofr0 := fresh_frs I
  have bP : s.heap.BuiltinsAt X.mg P := TB.bm.keeps I.bk
  have hP' : s.heap.get? P = some { cls := .none, data := .fields ps } := I.hok P _ hP
  have ltP : P < s.heap.objs.size := HOk.lt I.hok hP
  have tne : ∀ t, dV = .ref t → t ≠ P := fun t e z => by
    obtain ⟨_, d2, _⟩ := hdt t e
    rw [z, hP] at d2
    cases d2
  have tlt : ∀ t, dV = .ref t → t < s.heap.objs.size := fun t e => Heap.lt_size (hdt t e).1
  cases hc : codeAmong pos ps.toList with
  | none =>
    refine PySem.W.kdv_makeTail (mg := X.mg) (c := c) (P := P) (ps := ps) (closure_ok (L.has I.ok)) I.ok.glob (I.mod.glob.keeps I.bk) hcode (TB.code.keeps I.bk) hP' ht hc TB.gP bP fun c' ctv doc h' tk hx hge hlt hrec htb => ?_
    obtain ⟨c2, oc, vs, t, e2, hoc, hd, hv⟩ := hrec
    cases e2
    have hsz : s.heap.objs.size ≤ h'.objs.size := by omega
    have nC : H c' = none := HOk.fresh I.hok hge
    have J := inv_table (q := X.env.qual ++ "<lambda>") (t' := tk) (more := #[rawInt pos.line, rawInt pos.col, .ref c']) (h' := h'.push (PySem.W.kdv_obj "<lambda>" (X.env.qual ++ "<lambda>") params (.expr body) scope (cloFrom X.env.cells scope.names []) dV doc ((X.mg "__name__").getD .none) c' ctv)) I hP
      (fun b o hb e => Heap.get?_push_of_some _ (hx b o hb e)) (Heap.get?_push_of_some _ htb) hge ⟨oc, vs, t, Heap.get?_push_of_some _ hoc, hd, hv⟩
    have hE : ∀ b o, b ≠ P → H b = some o → upd (upd H P (.tbl (ps ++ #[rawInt pos.line, rawInt pos.col, .ref c']))) c' (CodeO c' (X.env.qual ++ "<lambda>")) b = some o := fun b o n e => by
      rw [upd_ne (ne_of_none e nC), upd_ne n]
      exact e
    have hN : ∀ {b : Addr} {q : Str}, H b = some (CodeO b q) → b ≠ P := fun {b q} e z => by
      rw [z, hP] at e
      exact codeO_ne ps (Option.some.inj e).symm
    have eL : (ps ++ #[rawInt pos.line, rawInt pos.col, .ref c']).toList = ps.toList ++ [rawInt pos.line, rawInt pos.col, .ref c'] := by simp
    refine h h'.objs.size c' _ _ J hE (fun p hp => ?_) ?_ upd_same
    · by_cases hb2 : p.1 = P
      · rw [hu p hp hb2, hb2]
        refine ⟨_, by rw [upd_ne (ne_of_none hP nC), upd_same], by rw [eL]; exact PySem.TriplesOk_snoc _ _ _ _ ht, fun p' cv hcv => ?_⟩
        rw [eL] at hcv
        rcases among_app _ ht hcv with z | z
        · obtain ⟨c0, e1, e2⟩ := ha p' cv z
          exact ⟨c0, e1, hE _ _ (hN e2) e2⟩
        · exact ⟨c', z, upd_same⟩
      · obtain ⟨ps', a1, a2, a3⟩ := hT p hp
        refine ⟨ps', by rw [upd_ne (ne_of_none a1 nC), upd_ne hb2]; exact a1, a2, fun p' cv hcv => ?_⟩
        obtain ⟨c0, e1, e2⟩ := a3 p' cv hcv
        exact ⟨c0, e1, hE _ _ (hN e2) e2⟩
    · refine ⟨dV, doc, _, ctv, dv, binds, Heap.get?_push_size _ rfl, ?_, nofr0 _ hsz, fun t e => ?_, fun s3 hs3 => hb _ _ _ _ _ _ s3 hs3, hloc⟩
      · have n1 : h'.objs.size ≠ c' := Nat.ne_of_gt hlt
        have n2 : h'.objs.size ≠ P := Nat.ne_of_gt (Nat.lt_of_lt_of_le ltP hsz)
        rw [upd_ne n1, upd_ne n2]
        exact HOk.fresh I.hok hsz
      · obtain ⟨d1, d2, d3⟩ := hdt t e
        have l1 := tlt t e
        refine ⟨Heap.get?_push_of_some _ (hx _ _ (tne t e) d1), ?_, d3⟩
        rw [upd_ne (Nat.ne_of_lt (Nat.lt_of_lt_of_le l1 hge)), upd_ne (tne t e)]
        exact d2
  | some cv =>
    obtain ⟨c', e, hco⟩ := ha pos cv hc
    subst e
    refine PySem.W.kdv_makeTailHit (mg := X.mg) (c := c) (P := P) (ps := ps) (closure_ok (L.has I.ok)) I.ok.glob (I.mod.glob.keeps I.bk) hcode (TB.code.keeps I.bk) hP' ht hc bP fun ctv doc h' tk hx hsz => ?_
    have J : Inv X pins σ H { s with heap := h'.push (PySem.W.kdv_obj "<lambda>" (X.env.qual ++ "<lambda>") params (.expr body) scope (cloFrom X.env.cells scope.names []) dV doc ((X.mg "__name__").getD .none) c' ctv), toks := tk } := I.kept fun b o e => Heap.get?_push_of_some _ (hx b o e)
    refine h h'.objs.size c' H _ J (fun _ _ _ e => e) hT ?_ hco
    refine ⟨dV, doc, _, ctv, dv, binds, Heap.get?_push_size _ rfl, HOk.fresh I.hok hsz, nofr0 _ hsz, fun t e => ?_, fun s3 hs3 => hb _ _ _ _ _ _ s3 hs3, hloc⟩
    obtain ⟨d1, d2, d3⟩ := hdt t e
    exact ⟨Heap.get?_push_of_some _ (hx _ _ d1), d2, d3⟩
/-- lambda: body -/
theorem mk_lam0 {T : List (Addr × Str)} {c P : Addr} {params : Arguments} {body : Expr} {scope : Scope} {pos : Pos} (L : LamD X.N X.env.scope scope) (TB : TabB X.base X.mg c P) (hcode : X.env.code = .ref c)
    (hm : (P, X.env.qual ++ "<lambda>") ∈ T) (hu : ∀ p ∈ T, p.1 = P → p.2 = X.env.qual ++ "<lambda>") (hdef : defaultsOf params X.env = ([], []))
    (hb : ∀ (q : Str) (cl : List (Str × Addr)) (doc pm cv ctv : Value), bindArgs (PySem.W.kdv_fn "<lambda>" q params (.expr body) scope cl .none doc pm cv ctv) ⟨[], []⟩ = pure []) : MkLam X T P params body scope pos := by
  intro pins σ H s E Q I hT h
  refine PySem.W.kla_eval hdef ?_
  rw [makeFunction_eq]
  simp only [List.zip_nil_right, List.filterMap_nil, List.isEmpty_nil, if_true, pure_bind]
  exact mk_tail (dV := .none) (dv := []) (binds := []) I L TB hcode hm hu hT (fun t e => nomatch e) (fun q cl doc pm cv ctv s1 _ => BindsTo.of_eq (hb _ _ _ _ _ _)) (fun y hy => nomatch hy) h
/-- lambda a=k: body, k a whole number -/
theorem mk_lam1 {T : List (Addr × Str)} {c P : Addr} {params : Arguments} {body : Expr} {scope : Scope} {pos dp : Pos} {k : Int} {j : Nat} {a : Str} (L : LamD X.N X.env.scope scope) (TB : TabB X.base X.mg c P) (hcode : X.env.code = .ref c)
    (hm : (P, X.env.qual ++ "<lambda>") ∈ T) (hu : ∀ p ∈ T, p.1 = P → p.2 = X.env.qual ++ "<lambda>") (hds : params.defaults = [.Constant (.int k) j dp]) (hkd : params.kw_defaults = [])
    (hla : scope.names.lookup a = some .local)
    (hb : ∀ (q : Str) (cl : List (Str × Addr)) (doc pm cv ctv v : Value) (t : Addr) (s1 : Shared), s1.heap.get? t = some (PySem.W.kdv_tup [v]) → BindsTo s1 (PySem.W.kdv_fn "<lambda>" q params (.expr body) scope cl (.ref t) doc pm cv ctv) ⟨[], []⟩ [(a, v)]) :
    MkLam X T P params body scope pos := by
  intro pins σ H s E Q I hT h
  refine PySem.W.kdv_lam (by rw [hds] <;> rfl) hkd ?_
  rw [hds]
  refine PySem.W.kdv_all1 (wpAny_Constant_int (PySem.W.kdv_all0 ?_))
  generalize Value.int k s.toks = u
  have I1 : Inv X pins σ H { s with toks := s.toks + 1 } := I.tok _
  rw [makeFunction_eq]
  simp only [List.zip_nil_right, List.filterMap_nil, List.isEmpty_nil, if_true, pure_bind, List.isEmpty_cons, Bool.false_eq_true, if_false]
  refine wpAny_bind (wpAny_newTextTuple ?_)
  have I2 : Inv X pins σ H { s with heap := s.heap.push (PySem.W.kdv_tup [u]), toks := s.toks + 1 } := I1.kept (t' := s.toks + 1) fun b o e => Heap.get?_push_of_some _ e
  refine mk_tail (dV := .ref s.heap.objs.size) (dv := [u]) (binds := [(a, u)]) I2 L TB hcode hm hu hT (fun t e => ?_) (fun q cl doc pm cv ctv s1 hs1 => hb _ _ _ _ _ _ _ _ s1 (hs1 _ rfl)) (fun y hy => ?_) h
  · cases e
    exact ⟨Heap.get?_push_size _ rfl, HOk.fresh I.hok (Nat.le_refl _), fresh_frs I _ (Nat.le_refl _)⟩
  · simp only [List.mem_cons, List.not_mem_nil, or_false] at hy
    subst hy
    exact hla
end
/-- a def that calls what it gets: its text, its promise -/
structure HeardOk (P : Program) (w : World) (K : PySem.W.Frag) (mg : Str → Option Value) (base : Heap) (gx : Gx) (k : Nat) (g : Addr) (x a : Str) (hF : (Sto → Res D) → Sto → Res D) : Prop where
  ex : ∃ (oc : Value) (od : Option Addr) (osl : Array (Option Value)) (pg : Arguments) (bg : List Stmt) (sg : Scope) (dV kV doc pm cdv ct : Value) (an : Option Addr) (Ng : List Str) (bH : Addr → Addr → Str → List (Option V) → EF → SF),
    K.lookup g = some ⟨oc, od, .func (PySem.W.fnOf x x pg bg sg dV kV doc pm an cdv ct), osl⟩ ∧ PySem.W.codeIn K cdv x = true ∧ L2.Binds K (PySem.W.fnOf x x pg bg sg dV kV doc pm an cdv ct) [a] [] ∧ FnScope Ng [a] sg ∧ Ng[0]? = some a ∧ Vis sg a ∧
    (∀ (f c : Addr) (q : Str) (σ : List (Option V)) (γ : List (Option D)) (fE : EF) (st : Sto), finish (bH f c q σ fE (startG Ng.length [.fn f c q σ γ]) st) = hF (fE γ) st) ∧
    ∀ (A : Around) (outer : List Env) (s : Shared) (H : Hp) (E : XK) (f c : Addr) (q : Str) (σ : List (Option V)) (fE : EF), Room k (A.deeper (envOfC x sg s.heap.objs.size g cdv)) → A.guards = some [] →
      (∀ (W : WX) (pn : List (Addr × Obj)) (xe : Value → Shared → Prop) (p1 p2 : Pos), Takes ((cxOf (L2.CX P w) P w K mg base Ng x sg g cdv A outer s H E).tr pn xe) W → PE ((cxOf (L2.CX P w) P w K mg base Ng x sg g cdv A outer s H E).tr pn xe) (.Call (.Name a p1) [] [] p2) (tF gx W (eAsk 0 f c q σ fE))) →
      PSs (cxOf (L2.CX P w) P w K mg base Ng x sg g cdv A outer s H E) bg (tS gx (fun cls d _ H => E cls d H) (bH f c q σ fE))
/-- x(lambda ..) -/
@[simp] def eHeard (hF : (Sto → Res D) → Sto → Res D) (fE : EF) : EF := fun γ st => hF (fE γ) st
section
variable {X : Cx}
/-- behind the making -/
theorem Cfg.made {gx : Gx} {S F H H1 : Hp} {ρ : List Addr} {st : Sto} {P : Addr} {q : Str} (c : Cfg gx S ρ F st H) (hm : (P, q) ∈ gx.T) (e : ∀ b o, b ≠ P → H b = some o → H1 b = some o) (hT : Tabs gx.T H1) : Cfg gx S ρ F st H1 := by
  have nS : ∀ b o, S b = some o → b ≠ P := fun b o h z => by
    have n := (c.noT _ hm).1
    rw [z, n] at h
    cases h
  have nF : ∀ b o, F b = some o → b ≠ P := fun b o h z => by
    have n := (c.noT _ hm).2
    rw [z, n] at h
    cases h
  refine ⟨fun b o h => e b o (nS b o h) (c.sub b o h), fun b o h => e b o (nF b o h) (c.fra b o h), c.dis, hT, c.noT, c.len, fun n x h => ?_, c.inj⟩
  obtain ⟨a, h1, h2, h3, h4⟩ := c.liv n x h
  obtain ⟨ps, hP, _⟩ := c.tab _ hm
  have na : a ≠ P := fun z => by
    obtain ⟨xs, e2⟩ := h4.there
    rw [z, hP] at e2
    cases e2
  exact ⟨a, h1, h2, h3, h4.mono (Le.refl _ _) fun o q => e a o na q⟩
/-- a code object is taken over -/
theorem Cfg.coded {gx : Gx} {S F H : Hp} {ρ : List Addr} {st : Sto} {c : Addr} {q : Str} (cf : Cfg gx S ρ F st H) (hc : H c = some (CodeO c q)) : Cfg gx (upd S c (CodeO c q)) ρ F st H ∧ Le S (upd S c (CodeO c q)) ρ ρ := by
  have le : Le S (upd S c (CodeO c q)) ρ ρ := ⟨fun b o h => by
    by_cases e : b = c
    · have z := cf.sub b o h
      rw [e] at z
      rw [hc] at z
      rw [e, upd_same]
      exact z
    · rw [upd_ne e]; exact h, fun _ _ h => h⟩
  refine ⟨⟨fun b o h => ?_, cf.fra, fun b xs h => ?_, cf.tab, fun p hp => ⟨?_, (cf.noT p hp).2⟩, cf.len, fun n x h => ?_, cf.inj⟩, le⟩
  · by_cases e : b = c
    · subst e; rw [upd_same] at h; cases h; exact hc
    · rw [upd_ne e] at h; exact cf.sub b o h
  · have nb : b ≠ c := fun e => by
      have z := cf.fra b _ h
      rw [e, hc] at z
      cases z
    rw [upd_ne nb]
    exact cf.dis b xs h
  · obtain ⟨ps, e, _⟩ := cf.tab p hp
    have np : p.1 ≠ c := fun z => by
      rw [z, hc] at e
      exact codeO_ne ps (Option.some.inj e)
    rw [upd_ne np]
    exact (cf.noT p hp).1
  · obtain ⟨a, h1, h2, h3, h4⟩ := cf.liv n x h
    have na : a ≠ c := fun z => by
      obtain ⟨xs, e2⟩ := h4.there
      rw [z, hc] at e2
      cases e2
    exact ⟨a, h1, by rw [upd_ne na]; exact h2, h3, h4.mono le fun _ e => e⟩
theorem fe_heard {gx : Gx} {W : WX} {x a : Str} {g P : Addr} {k k' : Nat} {params : Arguments} {body : Expr} {scope : Scope} {fE : EF} {hF : (Sto → Res D) → Sto → Res D} {p lpos pos : Pos} (tk : Takes X W) (hO : HeardOk X.prog X.w X.K X.mg X.base gx (k + 1) g x a hF)
    (hr : Room k' X.A) (hk : k + 2 ≤ k') (hgd : X.A.guards = some []) (hm : X.mg x = some (.ref g)) (kp : PySem.W.keepIn X.K (.ref g) = true) (L : LamD X.N X.env.scope scope) (hmT : (P, X.env.qual ++ "<lambda>") ∈ gx.T) (mk : MkLam X gx.T P params body scope lpos)
    (hbody : ∀ (A : Around) (outer : List Env) (s : Shared) (H : Hp) (E : XK) (f c' : Addr), Room k (A.deeper (lamEnv X scope s.heap.objs.size f c')) → A.guards = some [] → PE (lamCx X A outer s H E scope f c') body (tF gx (fun cls d _ H => E cls d H) fE))
    (hg : Gl X x := by rfl) (hdb : (x == ("__debug__" : Str)) = false := by decide) (hd : (a == ("__debug__" : Str)) = false := by decide) (hcd : (a == ("__classdict__" : Str)) = false := by decide) :
    PE X (.Call (.Name x p) [.Lambda params body scope lpos] [] pos) (tF gx W (eHeard hF fE)) := by
  refine ⟨fun pins s σ H Q I h => ?_⟩
  obtain ⟨γ, S, ρ, F, st, he, hc, hres⟩ := h
  obtain ⟨oc, od, osl, pg, bg, sg, dV, kV, doc, pm, cdv, ct, an, Ng, bH, lk, hcg, hb, Sg, hN0, hva, hlaw, hgive⟩ := hO.ex
  refine wpAny_Call_Name_kw (ld_glob I hg hm ?_ hdb)
  refine PySem.W.callWith_K (h₀ := X.base) I.ok.mod.kin kp ?_ (by rfl) (by rfl)
  show wpAny _ _ (spliced ((false, eval (.Lambda params body scope lpos) X.env) :: backTo pos (starEach [] X.env))) _ _ s
  refine Calls.spliced_cons (mk pins σ H s _ _ I hc.tab fun f c' H1 s' I1 eP T1 LA hco => ?_)
  refine Calls.spliced_nil ⟨I1.kIn, ?_⟩
  have c1 := hc.made hmT eP T1
  obtain ⟨c2, le2⟩ := c1.coded hco
  have df : DV gx (upd S c' (CodeO c' (X.env.qual ++ "<lambda>"))) ρ (.ref f) (.fn f c' (X.env.qual ++ "<lambda>") σ γ) := .fn upd_same (he.mono le2).dvo
  have rc : codeAny (model X.prog X.w) X.A (.call (.ref g) ⟨[.ref f], []⟩) (CR (L2.CX X.prog X.w) X.stack X.prog X.w H1 s' Q (fun cls d H => W cls d σ H)) s' := by
    refine run_ofS (N := Ng) (ps := [a]) (us := [.ref f]) (vs := [.ref f]) lk hcg Sg (hr.mono hk) I1.env0 (hb s' [.ref f] I1.kIn rfl) (.cons rfl .nil) rfl fun hr' => ?_
    refine ⟨_, hgive X.A X.stack s' H1 _ f c' (X.env.qual ++ "<lambda>") σ fE hr' hgd (fun W' pn xe p1 p2 tk' => pe_ask (i := 0) I1 L LA tk' hr' hgd (fun A outer s H E hr2 hg2 => hbody A outer s H E f c' hr2 hg2) hN0 hva hd hcd), ?_⟩
    refine ⟨startG Ng.length [.fn f c' (X.env.qual ++ "<lambda>") σ γ], _, ρ, F, st, start_env (.cons df .nil), c2, ?_⟩
    refine fin_of ?_
    rw [hlaw]
    exact RG.mono hres le2
  refine wpAny_call (codeAny_mono rc fun r s2 hq => ?_)
  cases r with
  | error e => exact passAt tk σ pins H1 s' e s2 I1 hq
  | ok fl =>
    cases fl with
    | ret u => exact I1.after hq
    | next => exact False.elim hq
    | brk => exact False.elim hq
    | cont => exact False.elim hq
end
end FL
end
section
set_option Elab.async false
set_option linter.all false
set_option maxRecDepth 100000
set_option maxHeartbeats 2000000
/-! ## int(text) of up to 4300 figures -/
namespace PySem
namespace FLX
open PySem.W PySem.Calls PySem.NumText PyProof.Rows
theorem wp_max {M : Model} {A : Around} {E : Value → Shared → Prop} {s : Shared} {Q : Nat → Shared → Prop} (hnd : s.heap.NoDigits) (h : Q 4300 s) : wpAny M A Builtin.intMaxStrDigits Q E s := by
  obtain ⟨mc, hns, hnone⟩ := hnd
  unfold Builtin.intMaxStrDigits
  refine wpAny_bind (wpAny_nsGet hns ?_)
  rw [hnone]
  exact wpAny_pure h
theorem wp_wide {M : Model} {A : Around} {E : Value → Shared → Prop} {s : Shared} {Q : Value → Shared → Prop} {v : Value} {text : List Nat} {n : Int} (hnd : s.heap.NoDigits)
    (hr : (int_private% "readNumeral") (if (text.takeWhile (· != 0)).length ≤ 640 then 0 else 4300) 10 (text.takeWhile (· != 0)) = (int_private% "Numeral.value") n)
    (ha : ((text.takeWhile (· != 0)).length == text.length) = true) (h : Q (.int n s.toks) { s with toks := s.toks + 1 }) :
    wpAny M A ((int_private% "intFromText") v text 10) Q E s := by
  by_cases hs : (text.takeWhile (· != 0)).length ≤ 640
  · rw [if_pos hs] at hr
    exact KIN.wp_text hs hr ha h
  · rw [if_neg hs] at hr
    have hs' : ((text.takeWhile (· != 0)).length ≤ 640) = False := by simpa using hs
    have hm : ∀ {E : Value → Shared → Prop} {P : Nat → Shared → Prop}, P 4300 s → wpAny M A Builtin.intMaxStrDigits P E s := fun h => wp_max hnd h
    clear hnd
    obtain ⟨hp, g, d, tk, os⟩ := s
    repeat (any_goals (first
      | assumption
      | (with_reducible refine wpAny_ite_false (decide_eq_false hs) ?_)
      | (with_reducible refine hm ?_)
      | wp_step))
    all_goals (try rw [hr])
    all_goals (try dsimp only)
    repeat (any_goals (first
      | assumption
      | (with_reducible refine wpAny_ite_true (decide_eq_true ha) ?_)
      | wp_step))
set_option maxHeartbeats 8000000 in
theorem meets_text {x : PySem.Str} {u : Tok} {n : Int} (hl : x.length ≤ sizeLine) (hn : PySem.intText? x = some n) : Meets (Builtin.«int.__new__» ⟨[.type "int", .str x u], []⟩) (fun _ R s => s.heap.NoDigits ∧ R (.ok (.ret (.int n s.toks))) { s with toks := s.toks + 1 }) := by
  intro prog w A R s ⟨hnd, h⟩
  refine wpAny_mono (Q := fun fin s' => ∃ v, fin = .done (.ret v) ∧ R (.ok (.ret v)) s') ?_ (fun fin s' h' => by obtain ⟨v, rfl, hv⟩ := h'; exact hv) fun _ _ x => x
  obtain ⟨hp, g, d, tk, os⟩ := s
  have f1 := F.conv_sub_int
  have f2 := F.madeHere_int
  have f3 := KIN.str_int
  have f4 := KIN.str_idx
  have f5 := KIN.str_trunc
  have f6 : typeOf (.str x u) = pure (.type "str") := rfl
  have hr : (int_private% "readNumeral") (numLimitOf x) 10 (numSeenOf x) = (int_private% "Numeral.value") n ∧ ((numSeenOf x).length == (numTextOf x).length) = true := by
    rcases readAny x hl with ⟨m, h1, h2, h3⟩ | ⟨h1, _⟩
    · rw [hn] at h1
      injection h1 with h1
      subst h1
      exact ⟨h3, h2⟩
    · rw [hn] at h1
      cases h1
  have hk := KIN.Hid.mk (And.intro hnd hr)
  clear hr hl hn hnd
  repeat (any_goals (first
    | assumption
    | ((with_reducible show wpAny _ _ ((int_private% "intFromText") _ _ _) _ _ _); refine wp_wide hk.out.1 hk.out.2.1 hk.out.2.2 ?_)
    | wp_step))
  all_goals first | exact ⟨_, rfl, h⟩ | skip
theorem int_text {prog : Program} {w : World} {A : Around} {E : Value → Shared → Prop} {s : Shared} {Q : Value → Shared → Prop} {x : PySem.Str} {t : Tok} {n : Int} (hnd : s.heap.NoDigits) (hn : PySem.intText? x = some n) (hl : x.length ≤ sizeLine) (h : Q (.int n s.toks) { s with toks := s.toks + 1 }) :
    wpAny (model prog w) A (call (.type "int") [.str x t]) Q E s :=
  call_int_1 (meets_text hl hn) ⟨hnd, rfl, h⟩
end FLX
end PySem
namespace FL
open PySem PySem.Spec PyProof.Rows L2 LamX
/-! ## texts -/
/-- int(x) of an int, a truth, a text -/
def opIntS : OpN := fun _ ds => match ds with
  | [.int i] => some (.int i)
  | [.bl b] => some (.int (if b then 1 else 0))
  | [.str a] => if a.length ≤ 16777216 then (PySem.intText? a).map .int else none
  | _ => none
/-- str(x) of an int, a text -/
def opStrW : OpN := fun _ ds => match ds with
  | [.int i] => if i.natAbs < 10 ^ 4300 then some (.str (toString i)) else none
  | _ => none
section
variable {X : Cx} {g : Gx} {W : WX} {pos : Pos}
theorem okIntS (hnd : X.base.NoDigits) : CallR X (.type "int") (rDN g opIntS) := by
  rintro pins s σ H xs us Q I r ⟨ds, r', S, ρ, F, st, c, dx, ho, q⟩
  unfold opIntS at ho
  split at ho
  · cases ho
    obtain ⟨v, rfl, d1⟩ := dx.one_
    obtain rfl := d1.int_
    exact call_int1 pins s σ H _ us Q I r (.inl ⟨_, rfl, q _ S ρ H (Le.refl _ _) c (.int _)⟩)
  · cases ho
    obtain ⟨v, rfl, d1⟩ := dx.one_
    obtain rfl := d1.bl_
    exact call_int1 pins s σ H _ us Q I r (.inr ⟨_, rfl, q _ S ρ H (Le.refl _ _) c (.int _)⟩)
  · split at ho
    · rename_i a hz
      cases hn : PySem.intText? a with
      | none => rw [hn] at ho; cases ho
      | some n =>
        rw [hn] at ho
        cases ho
        obtain ⟨v, rfl, d1⟩ := dx.one_
        obtain rfl := d1.str_
        cases r with
        | cons r1 rs =>
          cases rs
          obtain ⟨t, rfl⟩ := r1
          exact PySem.FLX.int_text (hnd.keeps I.bk) hn (by rw [sizeLine_eq]; exact hz) ⟨.int n, H, I.tok _, ⟨_, rfl⟩, q _ S ρ H (Le.refl _ _) c (.int n)⟩
    · cases ho
  · cases ho
theorem okStrW (hc : X.calm = true) (hnd : X.base.NoDigits) : CallR X (.type "str") (rDN g opStrW) := by
  rintro pins s σ H xs us Q I r ⟨ds, r', S, ρ, F, st, c, dx, ho, q⟩
  unfold opStrW at ho
  split at ho
  · rename_i i
    split at ho
    · rename_i hz
      cases ho
      obtain ⟨v, rfl, d1⟩ := dx.one_
      obtain rfl := d1.int_
      cases r with
      | cons r1 rs =>
        cases rs
        obtain ⟨t, rfl⟩ := r1
        exact str_of_int_or (I.ok.hd hc) (hnd.keeps I.bk) (fun _ => ⟨.str _, H, I.tok _, ⟨_, rfl⟩, q _ S ρ H (Le.refl _ _) c (.str _)⟩) fun h => absurd hz (Nat.not_lt.mpr h)
    · cases ho
  · cases ho
/-! ## repr -/
mutual
theorem py_noDict : ∀ d : D, (D.py d).hasDict = false
  | .non => rfl
  | .bl _ => rfl
  | .int _ => rfl
  | .str _ => rfl
  | .tup xs => by rw [D.py]; exact pys_noDict xs
  | .lst xs => by rw [D.py]; exact pys_noDict xs
  | .ro _ => rfl
  | .cell _ => rfl
  | .exc _ _ => rfl
  | .dic => rfl
  | .ty _ => rfl
  | .cls _ => rfl
  | .fn _ _ _ _ _ => rfl
theorem pys_noDict : ∀ ds : List D, PyData.hasDictAll (D.pys ds) = false
  | [] => rfl
  | d :: ds => by
    rw [D.pys]
    show ((D.py d).hasDict || PyData.hasDictAll (D.pys ds)) = false
    rw [py_noDict d, pys_noDict ds]
    rfl
end
def opRepr : OpN := fun _ ds => match ds with
  | [.tup xs] => if D.arePy xs && (D.tup xs).py.showable && decide ((D.tup xs).py.depth ≤ 60) && decide ((D.tup xs).py.shown.length ≤ 16777216) then some (.str (D.tup xs).py.shown) else none
  | [.lst xs] => if D.arePy xs && (D.lst xs).py.showable && decide ((D.lst xs).py.depth ≤ 60) && decide ((D.lst xs).py.shown.length ≤ 16777216) then some (.str (D.lst xs).py.shown) else none
  | [.bl b] => some (.str (if b then "True" else "False"))
  | [.non] => some (.str "None")
  | [.int i] => if i.natAbs.log2 < 1920 then some (.str (toString i)) else none
  | _ => none
theorem okRepr (hK : Gok X g) (hgd : X.A.guards = some []) (hu : X.A.units + 64 < cLine) : CallR X (.builtin "repr") (rDN g opRepr) := by
  rintro pins s σ H xs us Q I r ⟨ds, r', S, ρ, F, st, c, dx, ho, q⟩
  have main : ∀ (d : D) (v : V) (a : Addr), xs = [v] → v = .ref a → DV g S ρ v d → d.isPy = true → d.py.showable = true → d.py.depth ≤ 60 → d.py.shown.length ≤ 16777216 → r' = .str d.py.shown → wpAny (model X.prog X.w) X.A (call (.builtin "repr") us) (EP X pins σ Q) X.xe s := by
    intro d v a e ev rd hp hs hd hz er
    subst e
    subst ev
    subst er
    cases r with
    | cons r1 rs =>
      cases rs
      cases r1
      obtain ⟨as, hr⟩ := Dp.reads I d.py (.ref a) (.ref a) (by rw [← hK.K]; exact DV.dp c.sub d rd hp) rfl
      exact repr_of_reads' hr hs (fun z => by rw [py_noDict] at z; cases z) hgd (by omega) (fun _ _ z => z) (fun h' u tk hk => ⟨.str _, H, I.kept (t' := tk) hk, ⟨_, rfl⟩, q _ S ρ H (Le.refl _ _) c (.str _)⟩) (by rw [sizeLine_eq]; exact hz)
  unfold opRepr at ho
  split at ho
  · rename_i ys
    split at ho
    · rename_i hc
      simp only [Bool.and_eq_true, decide_eq_true_eq] at hc
      cases ho
      obtain ⟨v, rfl, d1⟩ := dx.one_
      obtain ⟨a, zs, e, _, _⟩ := d1.tup_
      exact main (.tup ys) v a rfl e d1 (by rw [D.isPy]; exact hc.1.1.1) hc.1.1.2 hc.1.2 hc.2 rfl
    · cases ho
  · rename_i ys
    split at ho
    · rename_i hc
      simp only [Bool.and_eq_true, decide_eq_true_eq] at hc
      cases ho
      obtain ⟨v, rfl, d1⟩ := dx.one_
      obtain ⟨a, zs, e, _, _⟩ := d1.lst_
      exact main (.lst ys) v a rfl e d1 (by rw [D.isPy]; exact hc.1.1.1) hc.1.1.2 hc.1.2 hc.2 rfl
    · cases ho
  · cases ho
    obtain ⟨v, rfl, d1⟩ := dx.one_
    obtain rfl := d1.bl_
    cases r with
    | cons r1 rs =>
      cases rs
      cases r1
      exact PySem.P.repr_of_bool ⟨.str _, H, I.tok _, ⟨_, rfl⟩, q _ S ρ H (Le.refl _ _) c (.str _)⟩
  · cases ho
    obtain ⟨v, rfl, d1⟩ := dx.one_
    obtain rfl := d1.non_
    cases r with
    | cons r1 rs =>
      cases rs
      cases r1
      exact PySem.P.repr_of_none ⟨.str _, H, I.tok _, ⟨_, rfl⟩, q _ S ρ H (Le.refl _ _) c (.str _)⟩
  · split at ho
    · rename_i hz
      cases ho
      obtain ⟨v, rfl, d1⟩ := dx.one_
      obtain rfl := d1.int_
      cases r with
      | cons r1 rs =>
        cases rs
        obtain ⟨t, rfl⟩ := r1
        exact PySem.P.repr_of_int hz ⟨.str _, H, I.tok _, ⟨_, rfl⟩, q _ S ρ H (Le.refl _ _) c (.str _)⟩
    · cases ho
  · cases ho
/-! ## x.split(y) -/
def opSplit : Op2 := fun _ d e => match d, e with
  | .str a, .str b => if (b.length == 0) = false ∧ a.length + 2 ≤ 16777216 then some (.lst ((Txt.split a b).map .str)) else none
  | _, _ => none
theorem DVs.strs {g : Gx} {S : Hp} {ρ : List Addr} : ∀ ys : List Str, DVs g S ρ (ys.map V.str) (ys.map D.str)
  | [] => .nil
  | y :: ys => .cons (.str y) (DVs.strs ys)
@[simp] def kSplit (fa : EF) (γ : Gam) (d : D) (st : Sto) : Res D := match d with
  | .str a => (fa γ st).bind fun e st2 => Res.of (opSplit st2 (.str a) e) st2
  | _ => .bad
@[simp] def eSplit (fo fa : EF) : EF := fun γ st => (fo γ st).bind (kSplit fa γ)
theorem fe_split {o e : Expr} {fo fa : EF} {apos cpos : Pos} (ho : PE X o (tF g W fo)) (ha : PE X e (tF g W fa)) (hs : starEach [e] X.env = [(false, eval e X.env)] := by rfl) (hbase : attributeBase o "split" X.env (eval o X.env) = eval o X.env := by rfl) (hline : (apos.endLine == cpos.line) = true := by rfl) :
    PE X (.Call (.Attribute o "split" apos) [e] [] cpos) (tF g W (eSplit fo fa)) := by
  refine (pe_split ho ha hs hbase hline).imp ?_
  rintro σ H Q ⟨γ, S, ρ, F, st, he, hc, hr⟩
  refine ⟨γ, S, ρ, F, st, he, hc, (RG.bind_ (R := fun S ρ => DV g S ρ) (k := kSplit fa γ) hr).imp ?_⟩
  rintro x H1 ⟨S1, ρ1, st1, d, le1, c1, rx, h1⟩
  dsimp only [kSplit] at h1
  split at h1
  · rename_i a
    obtain rfl := rx.str_
    refine ⟨⟨a, rfl⟩, γ, S1, ρ1, F, st1, he.mono le1, c1, (RG.bind_ (R := fun S ρ => DV g S ρ) (k := fun e st2 => Res.of (opSplit st2 (.str a) e) st2) h1).imp ?_⟩
    rintro y H2 ⟨S2, ρ2, st2, e', le2, c2, ry, h2⟩
    cases q : opSplit st2 (.str a) e' with
    | none => rw [q] at h2; exact h2.elim
    | some r =>
      rw [q] at h2
      unfold opSplit at q
      split at q
      · rename_i a' b e1
        cases e1
        split at q
        · rename_i hz
          cases q
          obtain rfl := ry.str_
          refine ⟨a, b, rfl, rfl, hz.1, by rw [sizeLine_eq]; exact hz.2, fun p hp => ?_⟩
          obtain ⟨c3, le3⟩ := c2.laid (p := p) (o := .lst ((Txt.split a b).map V.str)) hp
          exact h2 _ _ _ _ le3 c3 (.lst upd_same (DVs.strs _))
        · cases q
      · cases q
  · exact h1.elim
/-! ## walks over a text -/
@[simp] def kSigns (d : D) (st : Sto) : Res (List D) := match d with
  | .str z => .ok (z.cps.toList.map fun c => D.str ⟨#[c]⟩) st
  | _ => .bad
@[simp] def iSigns (f : EF) : IF := fun γ st => (f γ st).bind kSigns
theorem walks_str {S : Hp} {ρ : List Addr} {z : Str} : Walks g S ρ (Its z) (z.cps.toList.map fun c => D.str ⟨#[c]⟩) where
  go := fun i S2 ρ2 F st H hi le c => by
    show i < z.cps.size
    simpa using hi
  stop := fun S2 ρ2 F st H le c => by
    show z.cps.size ≤ _
    simp
  yld := fun i d S2 ρ2 F st H x H' hi le c y => by
    obtain ⟨rfl, cc, hcc, rfl⟩ := y
    rw [List.getElem?_map, Array.getElem?_toList, hcc] at hi
    cases hi
    exact ⟨S2, Le.refl _ _, c, .str _⟩
theorem fi_str {tg e : Expr} {fe : EF} (he : PE X e (tF g W fe)) : PI X tg e (tI g W (iSigns fe)) := by
  refine (pi_str he).imp ?_
  rintro σ H R ⟨γ, S, ρ, F, st, hv, hc, hr⟩
  refine ⟨γ, S, ρ, F, st, hv, hc, (RG.bind_ (R := fun S ρ => DV g S ρ) (k := kSigns) hr).imp ?_⟩
  rintro x H1 ⟨S1, ρ1, st1, d, le1, c1, rx, h1⟩
  dsimp only [kSigns] at h1
  split at h1
  · obtain rfl := rx.str_
    exact ⟨_, rfl, h1.ok_ c1 walks_str⟩
  · exact h1.elim
end
/-! ## a walk over a list, a tuple or a text -/
section
variable {X : Cx} {g : Gx} {W : WX}
@[simp] def kAny (d : D) (st : Sto) : Res (List D) := match d with
  | .lst ds => .ok ds st
  | .ro ds => .ok ds st
  | .tup ds => .ok ds st
  | .str z => .ok (z.cps.toList.map fun c => D.str ⟨#[c]⟩) st
  | _ => .bad
@[simp] def iAny (f : EF) : IF := fun γ st => (f γ st).bind kAny
theorem fi_any {tg e : Expr} {fe : EF} (hK : Gok X g) (he : PE X e (tF g W fe)) : PI X tg e (tI g W (iAny fe)) := by
  refine ⟨fun pins s σ H R I h => ?_⟩
  obtain ⟨γ, S, ρ, F, st, hv, hc, hr⟩ := h
  have hr' : RG g (fun cls dd H => W cls dd σ H) F (fun S ρ J ds => Walks g S ρ J ds) S ρ R ((fe γ st).bind kAny) := hr
  cases q : fe γ st with
  | bad => rw [q] at hr'; exact hr'.elim
  | ex c fs st1 =>
    refine (fi_list (tg := tg) hK he).run pins s σ H R I ⟨γ, S, ρ, F, st, hv, hc, ?_⟩
    show RG g _ F _ S ρ R ((fe γ st).bind kItems)
    rw [q] at hr' ⊢
    exact hr'
  | ok d st1 =>
    cases d with
    | lst ds =>
      refine (fi_list (tg := tg) hK he).run pins s σ H R I ⟨γ, S, ρ, F, st, hv, hc, ?_⟩
      show RG g _ F _ S ρ R ((fe γ st).bind kItems)
      rw [q] at hr' ⊢
      exact hr'
    | ro ds =>
      refine (fi_list (tg := tg) hK he).run pins s σ H R I ⟨γ, S, ρ, F, st, hv, hc, ?_⟩
      show RG g _ F _ S ρ R ((fe γ st).bind kItems)
      rw [q] at hr' ⊢
      exact hr'
    | tup ds =>
      refine (fi_tup (tg := tg) hK he).run pins s σ H R I ⟨γ, S, ρ, F, st, hv, hc, ?_⟩
      show RG g _ F _ S ρ R ((fe γ st).bind kItemsT)
      rw [q] at hr' ⊢
      exact hr'
    | str z =>
      refine (fi_str (tg := tg) he).run pins s σ H R I ⟨γ, S, ρ, F, st, hv, hc, ?_⟩
      show RG g _ F _ S ρ R ((fe γ st).bind kSigns)
      rw [q] at hr' ⊢
      exact hr'
    | _ => rw [q] at hr'; exact hr'.elim
end
/-! ## comprehensions -/
section
variable {X : Cx} {g : Gx} {W : WX} {pos : Pos} {elt tg iter : Expr} {ifs : List Expr} {scope : Scope} {fi : IF} {fc : TF} {fe : EF} {t : Tg} {own : List (Str × Nat)}
theorem fe_comp (hc : X.calm = true) (hN : X.N.Nodup) (hb : blkC X.N X.env.scope scope own = true) (hv : ∀ i ∈ t.slots, i ∈ own.map (·.2)) (hi : PI X tg iter (tI g W fi))
    (hg : ∀ (s : Shared) (H : Hp) (C : Addr) (cl : List (Str × Addr)) (fp : List Addr), PG (X.blk s H scope (compEnvC scope cl C X.env) fp) tg (tTG g t)) (ht : ∀ (s : Shared) (H : Hp) (C : Addr) (cl : List (Str × Addr)) (fp : List Addr), PTs (X.blk s H scope (compEnvC scope cl C X.env) fp) ifs (tFT g W0 fc))
    (he : ∀ (s : Shared) (H : Hp) (C : Addr) (cl : List (Str × Addr)) (fp : List Addr), PE (X.blk s H scope (compEnvC scope cl C X.env) fp) elt (tF g W0 fe)) (hs : ∀ x, foldedSetIterable iter X.env x = pure x := by intro _; rfl) :
    PE X (.ListComp elt [⟨tg, iter, ifs, 0⟩] scope pos) (tF g W (eComp (own.map (·.2)) t fi fc fe)) := (pe_lc hc hN hi (blkOk_by hb) hg ht he hs).imp fun _ _ _ h => comp_ok hv h
theorem fs_setComp (i : Nat) {y : Str} {py spos : Pos} (hc : X.calm = true) (hN : X.N.Nodup) (hb : blkC X.N X.env.scope scope own = true) (hv : ∀ i ∈ t.slots, i ∈ own.map (·.2)) (hi : PI X tg iter (tI g W fi))
    (hg : ∀ (s : Shared) (H : Hp) (C : Addr) (cl : List (Str × Addr)) (fp : List Addr), PG (X.blk s H scope (compEnvC scope cl C X.env) fp) tg (tTG g t)) (ht : ∀ (s : Shared) (H : Hp) (C : Addr) (cl : List (Str × Addr)) (fp : List Addr), PTs (X.blk s H scope (compEnvC scope cl C X.env) fp) ifs (tFT g W0 fc))
    (he : ∀ (s : Shared) (H : Hp) (C : Addr) (cl : List (Str × Addr)) (fp : List Addr), PE (X.blk s H scope (compEnvC scope cl C X.env) fp) elt (tF g W0 fe)) (hy : X.N[i]? = some y := by rfl) (hyl : X.env.scope.names.lookup y = some .local := by rfl)
    (hsw : swapsWith (.ListComp elt [⟨tg, iter, ifs, 0⟩] scope pos) (some (.Name y py)) spos.line X.env = pure true := by rfl) (hs : ∀ x, foldedSetIterable iter X.env x = pure x := by intro _; rfl) :
    PS X (.Assign [.Name y py] (.ListComp elt [⟨tg, iter, ifs, 0⟩] scope pos) spos) (tS g W (sAsg (.nm i) (eComp (own.map (·.2)) t fi fc fe))) := by
  refine (ps_setLc hc hN hy hyl hsw hi (blkOk_by hb) hg ht he hs).imp ?_
  intro D' σ H h
  obtain ⟨γ, S, ρ, F, st, he, hc, hr⟩ := tS_asg h
  exact comp_ok hv ⟨γ, S, ρ, F, st, he, hc, hr.imp fun v H1 h => gName_of h⟩
theorem fs_par3 (i j l : Nat) {x y z : Str} {a b c : Expr} {fa : AF} {px py pz pt : Pos} {kt k2 pt2} (hc : X.calm = true) (hN : X.N.Nodup) (ha : PA X [a, b, c] (tFA g W fa)) (hi : X.N[i]? = some x := by rfl) (hj : X.N[j]? = some y := by rfl) (hl : X.N[l]? = some z := by rfl) (hij : i ≠ j := by decide) (hil : i ≠ l := by decide) (hjl : j ≠ l := by decide)
    (hx : X.env.scope.names.lookup x = some .local := by rfl) (hy : X.env.scope.names.lookup y = some .local := by rfl) (hz : X.env.scope.names.lookup z = some .local := by rfl)
    (hw : swappedStores [.Tuple [.Name x px, .Name y py, .Name z pz] kt pt] (.Tuple [a, b, c] k2 pt2) X.env = pure (some [x, y, z]) := by rfl)
    (hs : swapsWithSole [.Tuple [.Name x px, .Name y py, .Name z pz] kt pt] (.Tuple [a, b, c] k2 pt2) pos.line X.env = pure false := by rfl) :
    PS X (.Assign [.Tuple [.Name x px, .Name y py, .Name z pz] kt pt] (.Tuple [a, b, c] k2 pt2) pos) (tS g W (sPar [i, j, l] fa)) := by
  refine (ps_par3 hc hN hi hj hl hij hil hjl hx hy hz ha hw hs).imp ?_
  intro D' σ H h
  obtain ⟨γ, S, ρ, F, st, he, hc, hr⟩ := tG_fl (R := fun S ρ => DVs g S ρ) (k := kPar [i, j, l]) h
  refine ⟨γ, S, ρ, F, st, he, hc, hr.imp ?_⟩
  rintro vs H1 ⟨γ, S, ρ, F, st, ds, he, hc, r, h⟩
  cases r with
  | nil => exact h.elim
  | cons r1 r => cases r with
    | nil => exact h.elim
    | cons r2 r => cases r with
      | nil => exact h.elim
      | cons r3 r => cases r with
        | nil => exact ⟨_, _, _, rfl, h.nx_ (((he.set i r1).set j r2).set l r3) hc⟩
        | cons _ _ => exact h.elim
end
end FL
end
section
set_option Elab.async false
set_option linter.all false
set_option maxRecDepth 100000
set_option maxHeartbeats 2000000
namespace FL
open PySem PySem.Spec PyProof.Rows L2 LamX
/-! ## forms of calls, by data alone -/
inductive SrcD where
  | p (i : Nat) | k (j : Nat) | d (x : D)
@[simp] def SrcD.X (ds es : List D) : SrcD → D
  | .p i => ds.getD i .non
  | .k j => es.getD j .non
  | .d x => x
def Src.toD : Src → SrcD
  | .p i => .p i
  | .k j => .k j
  | .d _ _ x => .d x
theorem Src.toD_X (ds es : List D) : ∀ x : Src, x.X ds es = x.toD.X ds es
  | .p _ => rfl
  | .k _ => rfl
  | .d _ _ _ => rfl
@[simp] def kCallX (n m : Nat) (arr : List SrcD) (f : FF) (ds es : List D) (st : Sto) : Res D := if ds.length = n ∧ es.length = m then f (arr.map (SrcD.X ds es)) st else .bad
@[simp] def eCallX (n m : Nat) (arr : List SrcD) (f : FF) (fa fk : AF) : EF := fun γ st => (fa γ st).bind fun ds st1 => (fk γ st1).bind fun es st2 => kCallX n m arr f ds es st2
theorem fx_callA {X : Cx} {g : Gx} {W : WX} {e : Expr} {n m : Nat} {arr : List Src} {f : FF} {fa fk : AF} (h : PE X e (tF g W (eCallA n m arr f fa fk))) : PE X e (tF g W (eCallX n m (arr.map Src.toD) f fa fk)) := by
  have e : eCallA n m arr f fa fk = eCallX n m (arr.map Src.toD) f fa fk := by
    funext γ st
    simp only [eCallA, eCallX, kArr, kCallX, List.map_map]
    congr 1
    funext ds st1
    congr 1
    funext es st2
    congr 2
    apply List.map_congr_left
    intro x _
    exact Src.toD_X ds es x
  rw [← e]
  exact h
theorem hu_room {k : Nat} {A : Around} (hr : Room k A) : A.units + 64 < cLine := by
  have := hr.un
  omega
theorem hu_room5 {k : Nat} {A : Around} (hr : Room k A) : A.units + 65 < cLine := by
  have := hr.un
  omega
/-- constants of the module -/
theorem const_int {g : Gx} {i : Int} {t : Tok} : ConstR g (.int i t) (.int i) := fun S ρ => ⟨.int i, ⟨t, rfl⟩, .int i⟩
theorem const_str {g : Gx} {x : Str} {t : Tok} : ConstR g (.str x t) (.str x) := fun S ρ => ⟨.str x, ⟨t, rfl⟩, .str x⟩
theorem const_tup {g : Gx} {a : Addr} {dd : Option Addr} {its : List Value} {n : Nat} {sl : Array (Option Value)} {vs : List V} {ds : List D} (h : g.K.lookup a = some ⟨.type "tuple", dd, .seq its.toArray n, sl⟩) (hl : its.length ≤ 1000) (r : Vals vs its) (rd : ∀ S ρ, DVs g S ρ vs ds) : ConstR g (.ref a) (.tup ds) := fun S ρ =>
  ⟨.ref a, rfl, .tup (.inr ⟨_, its.toArray, n, h, rfl, rfl, by rw [List.size_toArray, sizeLine_eq]; omega, by simpa using r⟩) (rd S ρ)⟩
/-! ## the end of a law -/
theorem law_end {P : Program} {w : World} {K : PySem.W.Frag} {mg mb : Str → Option Value} {fa a : Addr} {cs : List (Addr × Addr)} {sp : Sp} {s₁ : Shared} {vs : List Value} {ns : List Int}
    (KX : K.In s₁.heap) (hns : s₁.heap.Ns mainGlobals mg) (hb : s₁.heap.Ns builtinsNs mb) (hbb : ∀ x : Str, x ≠ "__name__" → mb x = bootBuiltins x) (hlim : s₁.heap.NoLimit) (hdig : s₁.heap.NoDigits) (hg : s₁.gens = #[])
    (hT : ∀ p ∈ cs, s₁.heap.get? p.2 = some { cls := .none, data := .fields #[] }) (nT : ∀ p ∈ cs, K.lookup p.2 = none) (C : ∀ p ∈ cs, PySem.W.CodeHd s₁.heap p.1 p.2)
    (hbm : ∃ (bm : Addr) (ob : Obj), mg "__builtins__" = some (.ref bm) ∧ bm ≠ builtinsNs ∧ s₁.heap.get? bm = some ob ∧ ob.cls = .type "module" ∧ ob.dict = some builtinsNs ∧ ob.data = .plain)
    (ha : s₁.heap.get? a = some { cls := .type "list", data := .seq vs.toArray }) (hi : IntsAre vs ns) (hl : ns.length ≤ sizeLine)
    (F : ∀ base : Heap, K.In base → base.Ns mainGlobals mg → base.NoDigits → (∀ p ∈ cs, TabB base mg p.1 p.2) → ∀ (s : Shared) (H : Hp) (Q : VK) (E : XK), Env0 P w K mg base callerA [] s H → sp [.ref a] H Q E → codeAny (model P w) callerA (.call (.ref fa) ⟨[.ref a], []⟩) (CR (L2.CX P w) [] P w H s Q E) s)
    (hsp : ∀ H : Hp, (∀ p ∈ cs, H p.2 = some (.tbl #[])) → SqL K H a (ns.map V.int) → sp [.ref a] H (fun v _ => v = .bl true) fun _ _ _ => False) :
    codeAny (model P w) callerA (.call (.ref fa) ⟨[.ref a], []⟩) (fun r s' => r = .ok (.ret (.bool true)) ∧ OldK s₁.heap s'.heap ∧ s'.os = s₁.os ∧ AllBare s'.gens) s₁ := by
  have rv := vals_ints hi
  have lenV := hi.length
  have isT : ∀ b : Addr, b ∈ cs.map (·.2) → s₁.heap.get? b = some { cls := .none, data := .fields #[] } := fun b hb => by
    obtain ⟨p, hp, e⟩ := List.mem_map.mp hb
    rw [← e]
    exact hT p hp
  have aT : a ∉ cs.map (·.2) := fun z => by
    have q := isT a z
    rw [ha] at q
    have z' : Data.seq vs.toArray _ = Data.fields #[] := congrArg Obj.data (Option.some.inj q)
    cases z'
  have memT : ∀ p ∈ cs, p.2 ∈ cs.map (·.2) := fun p hp => List.mem_map.mpr ⟨p, hp, rfl⟩
  -- from an abstract heap in which nothing but the script and the tables may be tracked
  have core : ∀ H : Hp, (∀ p ∈ cs, H p.2 = some (.tbl #[])) → (∀ b, H b = none ∨ b ∈ cs.map (·.2) ∨ ∃ o xs, H b = some (.frz o (.lst xs))) → SqL K H a (ns.map V.int) → HOk P w H s₁.heap → (∀ b, H b ≠ none → b = a ∨ b ∈ cs.map (·.2)) → (H a ≠ none → K.lookup a = none) →
      codeAny (model P w) callerA (.call (.ref fa) ⟨[.ref a], []⟩) (fun r s' => r = .ok (.ret (.bool true)) ∧ OldK s₁.heap s'.heap ∧ s'.os = s₁.os ∧ AllBare s'.gens) s₁ := by
    intro H hH hO hS hok hA hK
    have base_of : ∀ {b : Addr} {o : Obj}, s₁.heap.get? b = some o → H b = none → (hidT s₁.heap H).get? b = some o := fun e n => hidT_get e n
    have noD : ∀ {b : Addr} {o : Obj}, s₁.heap.get? b = some o → (∀ vs n, o.data ≠ .seq vs n) → o.data ≠ .fields #[] → H b = none := fun {b o} e h1 h2 => by
      cases q : H b with
      | none => rfl
      | some u =>
        rcases hA b (by rw [q]; simp) with e' | e'
        · rw [e', ha] at e
          cases e
          exact (h1 _ _ rfl).elim
        · rw [isT b e'] at e
          cases e
          exact (h2 rfl).elim
    have noA : ∀ {b : Addr} {o : Obj} {es : Array DictEntry} {ep : Nat}, s₁.heap.get? b = some o → o.data = .dict es ep → H b = none := fun {b o es ep} e d => by
      refine noD e (fun vs n z => ?_) fun z => ?_
      · rw [d] at z
        cases z
      · rw [d] at z
        cases z
    have nsK : ∀ {b : Addr} {m : Str → Option Value}, s₁.heap.Ns b m → (hidT s₁.heap H).Ns b m := fun {b m} ⟨o, es, ep, e, d, r⟩ => ⟨o, es, ep, base_of e (noA e d), d, r⟩
    have hKb : K.In (hidT s₁.heap H) := fun b o e => base_of (KX b o e) (by
      cases q : H b with
      | none => rfl
      | some u =>
        rcases hA b (by rw [q]; simp) with e' | e'
        · rw [e'] at e q
          rw [hK (by rw [q]; simp)] at e
          cases e
        · obtain ⟨p, hp, ep⟩ := List.mem_map.mp e'
          rw [← ep, nT p hp] at e
          cases e)
    have hM : L2.Mod K mg (hidT s₁.heap H) := ⟨hKb, nsK hns, ⟨mb, nsK hb, hbb⟩, let ⟨mc, h1, h2⟩ := hlim; ⟨mc, nsK h1, h2⟩⟩
    have TB : ∀ p ∈ cs, TabB (hidT s₁.heap H) mg p.1 p.2 := fun p hp => by
      have hTp := hT p hp
      refine ⟨?_, ?_, fun z => ?_⟩
      · obtain ⟨o, us, file, tf, flags, tg, inF, text, tt, e1, r1, r2, r3, r4, r5, r6, r7, r8, hne⟩ := C p hp
        refine ⟨o, us, file, tf, flags, tg, inF, text, tt, base_of e1 (noD e1 (fun vs n z => ?_) fun z => ?_), r1, r2, r3, r4, r5, r6, r7, r8, hne⟩
        · rw [r2] at z
          cases z
        · rw [r2] at z
          cases z
          simp at r3
      · obtain ⟨bm, ob, b1, b2, b3, b4, b5, b6⟩ := hbm
        have nG : bm ≠ mainGlobals := fun q => by
          obtain ⟨o, es, ep, e, hd, _⟩ := hns
          rw [q, e] at b3
          cases b3
          rw [hd] at b6
          cases b6
        have nP : bm ≠ p.2 := fun q => by
          rw [q, hTp] at b3
          cases b3
          cases b6
        refine ⟨bm, ob, b1, b2, nG, nP, base_of b3 (noD b3 (fun vs n z => ?_) fun z => ?_), b4, b5, b6⟩
        · rw [b6] at z
          cases z
        · rw [b6] at z
          cases z
      · obtain ⟨o, es, ep, e, hd, _⟩ := hns
        rw [z, hTp] at e
        cases e
        cases hd
    have e0 : Env0 P w K mg (hidT s₁.heap H) callerA [] s₁ H := ⟨rfl, hM, fun b o e => of_hidT e, Nat.le_of_eq (hidT_size _ _), trivial, fun b hb => absurd (show b ∈ ([] : List Addr) from hb) (by simp), hok, .of_eq hg⟩
    have hdg : (hidT s₁.heap H).NoDigits := let ⟨mc, h1, h2⟩ := hdig; ⟨mc, nsK h1, h2⟩
    refine codeAny_mono (F _ hKb (nsK hns) hdg TB s₁ H _ _ e0 (hsp H hH hS)) fun r s' h => ?_
    cases r with
    | error e =>
      obtain ⟨_, _, _, _, _, _, _, _, _, _, _, _, z⟩ := h
      exact z.elim
    | ok fl =>
      cases fl with
      | next => exact False.elim h
      | brk => exact False.elim h
      | cont => exact False.elim h
      | ret u =>
        obtain ⟨v, H', os, bare, un, hok', r', q⟩ := h
        have q' : v = .bl true := q
        subst q'
        obtain rfl : u = Value.bool true := r'
        have key : ∀ b o, b ∉ cs.map (·.2) → s₁.heap.get? b = some o → s'.heap.get? b = some o := fun b o nb e => by
          cases q : H b with
          | none => exact un.keep b o e q (by intro z; exact absurd (show b ∈ ([] : List Addr) from z) (by simp)) (by simp)
          | some u =>
            rcases hO b with z | z | ⟨ob, xs, z⟩
            · rw [q] at z; cases z
            · exact absurd z nb
            · have z2 := un.frzs b ob _ z
              obtain ⟨e1, _⟩ := hok b _ z
              obtain ⟨e2, _⟩ := hok' b _ z2
              rw [e] at e1; cases e1
              exact e2
        have grown : ∀ p ∈ cs, ∃ more : Array Value, s'.heap.get? p.2 = some { cls := .none, data := .fields more } := fun p hp => by
          obtain ⟨more, z⟩ := un.tbls p.2 #[] (hH p hp)
          exact ⟨_, hok' p.2 _ z⟩
        refine ⟨rfl, ⟨fun b o e => ?_, fun b o e => ?_⟩, os, bare⟩
        · by_cases hb : b ∈ cs.map (·.2)
          · obtain ⟨p, hp, ep⟩ := List.mem_map.mp hb
            obtain ⟨more, hm⟩ := grown p hp
            rw [← ep] at e ⊢
            rw [hT p hp] at e
            cases e
            exact .inr (.inl ⟨((C p hp).tab (hT p hp)).isCodeTable, rfl, #[], more, rfl, by rw [Array.empty_append]; exact hm⟩)
          · exact .inl (key b o hb e)
        · by_cases hb : b ∈ cs.map (·.2)
          · obtain ⟨p, hp, ep⟩ := List.mem_map.mp hb
            obtain ⟨more, hm⟩ := grown p hp
            rw [← ep]
            exact ⟨_, hm⟩
          · exact ⟨o, key b o hb e⟩
  cases hk : K.lookup a with
  | some o =>
    have e := KX a o hk
    rw [ha] at e
    cases e
    refine core (fun b => if b ∈ cs.map (·.2) then some (.tbl #[]) else none) (fun p hp => if_pos (memT p hp)) (fun b => ?_) (.inr ⟨_, vs.toArray, _, hk, rfl, rfl, rfl, by rw [List.size_toArray, lenV]; exact hl, by simpa using rv⟩) (fun b u z => ?_) (fun b z => ?_) fun z => absurd (show (if a ∈ cs.map (·.2) then some (HO.tbl #[]) else none) = none from if_neg aT) z
    · by_cases hb : b ∈ cs.map (·.2)
      · exact .inr (.inl hb)
      · exact .inl (if_neg hb)
    · by_cases hb : b ∈ cs.map (·.2)
      · have z' := (if_pos hb).symm.trans z
        cases z'
        exact isT b hb
      · have z' := (if_neg hb).symm.trans z
        cases z'
    · by_cases hb : b ∈ cs.map (·.2)
      · exact .inr hb
      · exact absurd (if_neg hb) z
  | none =>
    refine core (fun b => if b = a then some (.frz { cls := .type "list", data := .seq vs.toArray } (.lst (ns.map V.int))) else if b ∈ cs.map (·.2) then some (.tbl #[]) else none) (fun p hp => (if_neg (show ¬ p.2 = a from fun z => aT (by rw [← z]; exact memT p hp))).trans (if_pos (memT p hp))) (fun b => ?_)
      (.inl (.inr ⟨{ cls := .type "list", data := .seq vs.toArray }, if_pos rfl⟩)) (fun b u z => ?_) (fun b z => ?_) fun _ => hk
    · by_cases hb : b = a
      · exact .inr (.inr ⟨_, _, if_pos hb⟩)
      · by_cases hb2 : b ∈ cs.map (·.2)
        · exact .inr (.inl hb2)
        · exact .inl ((if_neg hb).trans (if_neg hb2))
    · by_cases hb : b = a
      · have z' := (if_pos hb).symm.trans z
        cases z'
        rw [hb]
        exact ⟨ha, by rw [List.length_map]; exact hl, vs, _, rv, ha⟩
      · have z1 := (if_neg hb).symm.trans z
        by_cases hb2 : b ∈ cs.map (·.2)
        · have z' := (if_pos hb2).symm.trans z1
          cases z'
          exact isT b hb2
        · have z' := (if_neg hb2).symm.trans z1
          cases z'
    · by_cases hb : b = a
      · exact .inl hb
      · by_cases hb2 : b ∈ cs.map (·.2)
        · exact .inr hb2
        · exact absurd ((if_neg hb).trans (if_neg hb2)) z

/-- what is told of the law at the head's heap h -/
def LawAt (P : Program) (w : World) (K : PySem.W.Frag) (k n : Nat) (x : Str) (mg : Str → Option Value) (fa : Addr) (h : Heap) : Prop :=
  ∃ (fd : FuncData) (cs : List (Addr × Addr)) (g : Gx) (ff : FF), g.K = K ∧ (∀ p ∈ g.T, ∃ q ∈ cs, q.2 = p.1) ∧ (∀ p ∈ cs, h.get? p.2 = some { cls := .none, data := .fields #[] }) ∧ (∀ p ∈ cs, K.lookup p.2 = none) ∧ (∀ p ∈ cs, PySem.W.CodeHd h p.1 p.2) ∧ (∀ (s : Shared) (u : Value), BindsTo s fd ⟨[u], []⟩ [(x, u)]) ∧
    (∀ ns : List Int, ns.length ≤ n → (∀ z ∈ ns, Builtin.Int.intBits z ≤ 1048576) → ∃ st, ff [.ro (ns.map D.int)] [] = .ok (.bl true) st) ∧
    ∀ base : Heap, K.In base → base.Ns mainGlobals mg → base.NoDigits → (∀ p ∈ cs, TabB base mg p.1 p.2) → DefG P w K mg base g k fa fd [x] ff
/-- the code object and the empty table of the def that stands at a -/
def TabFact (K : PySem.W.Frag) (a : Addr) (h : Heap) : Prop := ∀ (c P : Addr) (o : Obj) (fd : FuncData) (e : Value) (dd : Option Addr) (vs : Array Value) (sl : Array (Option Value)), K.lookup a = some o → o.data = .func fd → fd.code = .ref c → K.lookup c = some ⟨e, dd, .fields vs, sl⟩ → vs[11]? = some (.ref P) →
  h.get? P = some { cls := .none, data := .fields #[] } ∧ PySem.W.CodeHd h c P
theorem walk_law {l : PySem.W.OpenLaw} {n k : Nat} {q : Program} {loose : List Str} {XP : (Str → Option Value) → Heap → Prop} {YP : World → Heap → Prop} {d : DefRec} {K : Params → PySem.W.Frag} {x : Str}
    (hn : l.most = some n) (hn2 : n ≤ sizeLine) (hdf : d.params.defaults = []) (hr : Room k callerA) (hY : ∀ (w : World) (h : Heap), YP w h → (K w.params).In h)
    (F : ∀ (w : World) (mg : Str → Option Value) (fa : Addr) (h : Heap), YP w h → (K w.params).In h → h.Ns mainGlobals mg → mg d.name = some (.ref fa) → (∀ (y : Str) (b : Addr), ((recsOf q).any fun e => e.name == y) = true → mg y = some (.ref b) → TabFact (K w.params) b h) → LawAt l.prog w (K w.params) k n x mg fa h) :
    PySem.W.WalkO q loose XP YP l.row.toRowW d [] (fun f vs => PySem.call f vs) := by
  refine Att.attach_callB hn hdf fun w s₀ s₁ mg mb fa o pm cd doc a vs ns G Y ho hd hcd hmg hobj hints hlen hbits hg => ?_
  have KX := hY w _ Y
  have tabs : ∀ (y : Str) (b : Addr), ((recsOf q).any fun e => e.name == y) = true → mg y = some (.ref b) → TabFact (K w.params) b s₁.heap := fun y b hrec hy c P o1 fd1 e dd vs1 sl k1 k2 k3 k4 k5 => by
    obtain ⟨dL, hm, hn1⟩ := List.any_eq_true.mp hrec
    have hn2 : dL.name = y := beq_iff_eq.mp hn1
    obtain ⟨a', o', fd', c', P', h1, h2, h3, h4, h5, h6⟩ := G.T.tab dL hm
    rw [hn2, hy] at h1
    cases h1
    have g1 := KX _ _ k1
    rw [g1] at h2
    cases h2
    rw [k2] at h3
    cases h3
    rw [k3] at h4
    cases h4
    have hC := PySem.W.CodeHd.of h5 h6
    obtain ⟨⟨oc, vc, e1, _, e3, e4⟩, hP⟩ := h6
    have g2 := KX _ _ k4
    rw [g2] at e1
    cases e1
    cases e3
    rw [k5] at e4
    cases e4
    exact ⟨hP, hC⟩
  obtain ⟨fd, cs, g, ff, hK, hTc, hT, nT, C, hb, hff, hF⟩ := F w mg fa _ Y KX G.T.g hmg tabs
  obtain ⟨st', hres⟩ := hff ns hlen hbits
  refine law_end (sp := fun vs H Q E => vs = [.ref a] ∧ Q = (fun v _ => v = .bl true) ∧ (∀ p ∈ cs, H p.2 = some (.tbl #[])) ∧ SqL (K w.params) H a (ns.map V.int)) KX G.T.g G.T.b G.T.builtins G.T.nolimit G.T.nodigits hg hT nT C G.T.bmain hobj hints (Nat.le_trans hlen hn2)
    (fun base h1 h2 h3 h4 s H Q E e0 hs => ?_) (fun H hH hS => ⟨rfl, rfl, hH, hS⟩)
  obtain ⟨_, rfl, hH, hS⟩ := hs
  have noT : ∀ p ∈ g.T, ∃ q', H p.1 = some (.tbl q') := fun p hp => by
    obtain ⟨q', hq, e⟩ := hTc p hp
    exact ⟨#[], by rw [← e]; exact hH q' hq⟩
  -- nothing is laid yet; the script stands in the heap
  let S : Hp := fun b => if b = a then (match H a with | some (.tbl _) => none | o => o) else none
  have hSa : SqL g.K S a (ns.map V.int) := by
    rw [hK]
    rcases hS with (z | ⟨o, z⟩) | z
    · exact .inl (.inl (by show (if a = a then _ else none) = _; rw [if_pos rfl, z]))
    · exact .inl (.inr ⟨o, by show (if a = a then _ else none) = _; rw [if_pos rfl, z]⟩)
    · exact .inr z
  have hsub : ∀ b o, S b = some o → H b = some o := fun b o z => by
    have z' : (if b = a then (match H a with | some (.tbl _) => none | o => o) else none) = some o := z
    by_cases e : b = a
    · rw [if_pos e] at z'
      split at z'
      · cases z'
      · rw [e]; exact z'
    · rw [if_neg e] at z'
      cases z'
  have c0 : Cfg g S [] (fun _ => none) [] H := by
    refine ⟨hsub, fun b o z => (nomatch z), fun b xs z => (nomatch z), fun p hp => ?_, fun p hp => ⟨?_, rfl⟩, rfl, fun m c z => by simp at z, fun m m' c c' b z => by simp at z⟩
    · obtain ⟨q', hq, e⟩ := hTc p hp
      exact TabS.nil (by rw [← e]; exact hH q' hq)
    · cases z : S p.1 with
      | none => rfl
      | some o =>
        obtain ⟨q', e⟩ := noT p hp
        have z' : (if p.1 = a then (match H a with | some (.tbl _) => none | o => o) else none) = some o := z
        by_cases ea : p.1 = a
        · rw [if_pos ea, ← ea, e] at z'
          cases z'
        · rw [if_neg ea] at z'
          cases z'
  refine (hF base h1 h2 h3 h4).run callerA [] s H ⟨[.ref a], []⟩ [.ref a] [.ref a] [.ro (ns.map D.int)] S [] (fun _ => none) [] _ E hr rfl e0 (hb s (.ref a)) (.cons rfl .nil) rfl c0 (.cons (.ro hSa (DVs.ints ns)) .nil) ?_
  rw [hres]
  intro v S' ρ' H' le c r
  cases r
  rfl
end FL
end
section
set_option Elab.async false
set_option linter.all false
set_option maxRecDepth 100000
set_option maxHeartbeats 2000000
namespace FL
open PySem PySem.Spec PyProof.Rows L2 LamX
/-! ## what the operators give on data, told for simp -/
@[simp] theorem opAdd_int (st : Sto) (i j : Int) : opAdd st (.int i) (.int j) = some (.int (i + j)) := rfl
@[simp] theorem opAdd_str (st : Sto) (x y : Str) : opAdd st (.str x) (.str y) = if x.length + y.length ≤ 16777216 then some (.str (x ++ y)) else none := rfl
@[simp] theorem opAdd_lst (st : Sto) (xs ys : List D) : opAdd st (.lst xs) (.lst ys) = if xs.length + ys.length ≤ 16777216 then some (.lst (xs ++ ys)) else none := rfl
@[simp] theorem opSub_int (st : Sto) (i j : Int) : opSub st (.int i) (.int j) = some (.int (i - j)) := rfl
@[simp] theorem opMul_int (st : Sto) (i j : Int) : opMul st (.int i) (.int j) = if i.natAbs.log2 + j.natAbs.log2 < 134000000 then some (.int (i * j)) else none := rfl
@[simp] theorem opMul_lst (st : Sto) (xs : List D) (k : Int) : opMul st (.lst xs) (.int k) = if 0 ≤ k ∧ k ≤ 1000000 ∧ xs.length * k.toNat ≤ 16777216 then some (.lst (List.replicate k.toNat xs).flatten) else none := rfl
@[simp] theorem opMul_str (st : Sto) (z : Str) (k : Int) : opMul st (.str z) (.int k) = if 1 ≤ k ∧ k ≤ 1000000 ∧ z.length * k.toNat ≤ 16777216 then some (.str (repS z k.toNat)) else none := rfl
@[simp] theorem opDiv_int (st : Sto) (i j : Int) : opDiv st (.int i) (.int j) = if 0 < j ∧ j.natAbs.log2 < 9000 then some (.int (i / j)) else none := rfl
@[simp] theorem opMod_int (st : Sto) (i j : Int) : opMod st (.int i) (.int j) = if 0 < j then some (.int (i % j)) else if j < 0 then some (.int (i.fmod j)) else none := rfl
@[simp] theorem opPow_int (st : Sto) (i j : Int) : opPow st (.int i) (.int j) = if 0 ≤ j ∧ j ≤ 1000000 ∧ i.natAbs < 18446744073709551616 then some (.int (i ^ j.toNat)) else none := rfl
@[simp] theorem opLt_int (st : Sto) (i j : Int) : opLt st (.int i) (.int j) = some (.bl (decide (i < j))) := rfl
@[simp] theorem opLe_int (st : Sto) (i j : Int) : opLe st (.int i) (.int j) = some (.bl (decide (i ≤ j))) := rfl
@[simp] theorem opGt_int (st : Sto) (i j : Int) : opGt st (.int i) (.int j) = some (.bl (decide (j < i))) := rfl
@[simp] theorem opGe_int (st : Sto) (i j : Int) : opGe st (.int i) (.int j) = some (.bl (decide (j ≤ i))) := rfl
@[simp] theorem opNeg_int (st : Sto) (i : Int) : opNeg st (.int i) = some (.int (-i)) := rfl
@[simp] theorem opIsN_ (st : Sto) (d : D) : opIsN st d .non = some (.bl d.isNon) := rfl
@[simp] theorem opNotN_ (st : Sto) (d : D) : opNotN st d .non = some (.bl (!d.isNon)) := rfl
@[simp] theorem isNon_non : D.isNon .non = true := rfl
@[simp] theorem isNon_int (i : Int) : D.isNon (.int i) = false := rfl
@[simp] theorem isNon_bl (i : Bool) : D.isNon (.bl i) = false := rfl
@[simp] theorem isNon_str (i : Str) : D.isNon (.str i) = false := rfl
@[simp] theorem isNon_tup (i : List D) : D.isNon (.tup i) = false := rfl
@[simp] theorem isNon_lst (i : List D) : D.isNon (.lst i) = false := rfl
@[simp] theorem isNon_exc (c : Str) (i : List D) : D.isNon (.exc c i) = false := rfl
@[simp] theorem opIsB_bl (st : Sto) (a b : Bool) : opIsB st (.bl a) (.bl b) = some (.bl (decide (a = b))) := rfl
@[simp] theorem opNotB_bl (st : Sto) (a b : Bool) : opNotB st (.bl a) (.bl b) = some (.bl (!decide (a = b))) := rfl
@[simp] theorem opIx_tup (st : Sto) (xs : List D) (i : Int) : opIx st (.tup xs) (.int i) = atI xs i := rfl
@[simp] theorem opIx_lst (st : Sto) (xs : List D) (i : Int) : opIx st (.lst xs) (.int i) = atI xs i := rfl
@[simp] theorem opIx_ro (st : Sto) (xs : List D) (i : Int) : opIx st (.ro xs) (.int i) = atI xs i := rfl
@[simp] theorem opIx_cell (st : Sto) (n : Nat) (i : Int) : opIx st (.cell n) (.int i) = match st[n]? with
    | some (some (.lst xs)) => atI xs i
    | _ => none := rfl
@[simp] theorem opIx_str (st : Sto) (z : Str) (i : Int) : opIx st (.str z) (.int i) = if z.length ≤ 16777216 then (atI z.cps.toList i).map fun c => .str ⟨#[c]⟩ else none := rfl
theorem atI_nat {α : Type} (xs : List α) (n : Nat) : atI xs (n : Int) = xs[n]? := by
  unfold atI
  by_cases h : n < xs.length
  · have e : ixN xs.length (n : Int) = some n := by
      unfold ixN
      rw [if_pos (Int.natCast_nonneg n), if_pos (by omega), Int.toNat_natCast]
    rw [e]; rfl
  · have e : ixN xs.length (n : Int) = none := by
      unfold ixN
      rw [if_pos (Int.natCast_nonneg n), if_neg (by omega)]
    rw [e, List.getElem?_eq_none (by omega)]
    rfl
@[simp] theorem atI_0 {α : Type} (x : α) (xs : List α) : atI (x :: xs) 0 = some x := atI_nat _ 0
@[simp] theorem atI_1 {α : Type} (x y : α) (xs : List α) : atI (x :: y :: xs) 1 = some y := atI_nat _ 1
@[simp] theorem atI_2 {α : Type} (x y z : α) (xs : List α) : atI (x :: y :: z :: xs) 2 = some z := atI_nat _ 2
@[simp] theorem atI_3 {α : Type} (x y z u : α) (xs : List α) : atI (x :: y :: z :: u :: xs) 3 = some u := atI_nat _ 3
@[simp] theorem atI_4 {α : Type} (x y z u v : α) (xs : List α) : atI (x :: y :: z :: u :: v :: xs) 4 = some v := atI_nat _ 4
@[simp] theorem opLen_str (st : Sto) (z : Str) : opLen st [.str z] = if z.length ≤ 16777216 then some (.int z.length) else none := rfl
@[simp] theorem opLen_lst (st : Sto) (xs : List D) : opLen st [.lst xs] = some (.int xs.length) := rfl
@[simp] theorem opLen_ro (st : Sto) (xs : List D) : opLen st [.ro xs] = some (.int xs.length) := rfl
@[simp] theorem opLen_tup (st : Sto) (xs : List D) : opLen st [.tup xs] = some (.int xs.length) := rfl
@[simp] theorem opLen_cell (st : Sto) (n : Nat) : opLen st [.cell n] = match st[n]? with
    | some (some (.lst xs)) => some (.int xs.length)
    | _ => none := rfl
@[simp] theorem opAbs_int (st : Sto) (i : Int) : opAbs st [.int i] = some (.int (if i < 0 then -i else i)) := rfl
@[simp] theorem opIntS_int (st : Sto) (i : Int) : opIntS st [.int i] = some (.int i) := rfl
@[simp] theorem opIntS_bl (st : Sto) (b : Bool) : opIntS st [.bl b] = some (.int (if b then 1 else 0)) := rfl
@[simp] theorem opIntS_str (st : Sto) (a : Str) : opIntS st [.str a] = if a.length ≤ 16777216 then (PySem.intText? a).map .int else none := rfl
@[simp] theorem opStrW_int (st : Sto) (i : Int) : opStrW st [.int i] = if i.natAbs < 10 ^ 4300 then some (.str (toString i)) else none := rfl
@[simp] theorem opTuple_lst (st : Sto) (xs : List D) : opTuple st [.lst xs] = some (.tup xs) := rfl
@[simp] theorem opTuple_tup (st : Sto) (xs : List D) : opTuple st [.tup xs] = some (.tup xs) := rfl
@[simp] theorem opTuple_ro (st : Sto) (xs : List D) : opTuple st [.ro xs] = some (.tup xs) := rfl
@[simp] theorem opListOf_lst (st : Sto) (xs : List D) : opListOf st [.lst xs] = some (.lst xs) := rfl
@[simp] theorem opGcd_int (st : Sto) (i j : Int) : opGcd st [.int i, .int j] = some (.int ((Nat.gcd i.natAbs j.natAbs : Nat) : Int)) := rfl
@[simp] theorem opMax2_int (st : Sto) (i j : Int) : opMax2 st [.int i, .int j] = some (.int (if j > i then j else i)) := rfl
@[simp] theorem opMin2_int (st : Sto) (i j : Int) : opMin2 st [.int i, .int j] = some (.int (if j < i then j else i)) := rfl
@[simp] theorem truth_non (st : Sto) : truth st .non = some false := rfl
@[simp] theorem truth_bl (st : Sto) (b : Bool) : truth st (.bl b) = some b := rfl
@[simp] theorem truth_int (st : Sto) (i : Int) : truth st (.int i) = some (i != 0) := rfl
@[simp] theorem truth_str (st : Sto) (s : Str) : truth st (.str s) = if s.length ≤ 16777216 then some (s.length != 0) else none := rfl
@[simp] theorem truth_tup (st : Sto) (ds : List D) : truth st (.tup ds) = some (!ds.isEmpty) := rfl
@[simp] theorem truth_lst (st : Sto) (ds : List D) : truth st (.lst ds) = some (!ds.isEmpty) := rfl
@[simp] theorem opIsi_exc (sub : Str → Str → Option Bool) (st : Sto) (c c2 : Str) (fs : List D) : opIsi sub st [.exc c fs, .cls c2] = (sub c c2).map .bl := rfl
@[simp] theorem opIsi_int (sub : Str → Str → Option Bool) (st : Sto) (i : Int) (b : String) : opIsi sub st [.int i, .ty b] = (isiB "int" b).map .bl := rfl
@[simp] theorem opIsi_bl (sub : Str → Str → Option Bool) (st : Sto) (i : Bool) (b : String) : opIsi sub st [.bl i, .ty b] = (isiB "bool" b).map .bl := rfl
@[simp] theorem opIsi_str (sub : Str → Str → Option Bool) (st : Sto) (i : Str) (b : String) : opIsi sub st [.str i, .ty b] = (isiB "str" b).map .bl := rfl
@[simp] theorem opIsi_tup (sub : Str → Str → Option Bool) (st : Sto) (i : List D) (b : String) : opIsi sub st [.tup i, .ty b] = (isiB "tuple" b).map .bl := rfl
@[simp] theorem opIsi_lst (sub : Str → Str → Option Bool) (st : Sto) (i : List D) (b : String) : opIsi sub st [.lst i, .ty b] = (isiB "list" b).map .bl := rfl
@[simp] theorem opIsi_non (sub : Str → Str → Option Bool) (st : Sto) (b : String) : opIsi sub st [.non, .ty b] = (isiB "NoneType" b).map .bl := rfl
/-! ## what can be compared -/
def D.shk (k : Nat) (d : D) : Bool := d.isPy && d.py.canLay0 && decide (d.py.depth ≤ k)
theorem D.shp_eq (d : D) : d.shp = d.shk 64 := by
  unfold D.shp D.shk SeqAt.shaped
  rw [Bool.and_assoc]
@[simp] theorem shk_int (k : Nat) (i : Int) : D.shk k (.int i) = true := by simp [D.shk, D.isPy, D.py, PyData.canLay0, PyData.depth]
@[simp] theorem shk_bl (k : Nat) (i : Bool) : D.shk k (.bl i) = true := by simp [D.shk, D.isPy, D.py, PyData.canLay0, PyData.depth]
@[simp] theorem shk_non (k : Nat) : D.shk k .non = true := by simp [D.shk, D.isPy, D.py, PyData.canLay0, PyData.depth]
theorem shk_str (k : Nat) (s : Str) : D.shk k (.str s) = PyData.canLay0 (.str s) := by simp [D.shk, D.isPy, D.py, PyData.depth]
theorem shk_all (k : Nat) : ∀ xs : List D, (D.arePy xs && PyData.canLayAll0 (D.pys xs) && decide (PyData.depthAll (D.pys xs) ≤ k)) = xs.all (D.shk k)
  | [] => by simp [D.arePy, D.pys, PyData.canLayAll0, PyData.depthAll]
  | x :: xs => by
    rw [List.all_cons, ← shk_all k xs]
    simp only [D.arePy, D.pys, PyData.canLayAll0, PyData.depthAll, D.shk, Nat.max_le, Bool.decide_and]
    cases D.isPy x <;> cases D.arePy xs <;> cases PyData.canLay0 (D.py x) <;> simp
    cases PyData.canLayAll0 (D.pys xs) <;> simp
@[simp] theorem shk_tup (k : Nat) (xs : List D) : D.shk (k + 1) (.tup xs) = xs.all (D.shk k) := by
  rw [← shk_all k xs]
  simp [D.shk, D.isPy, D.py, PyData.canLay0, PyData.depth]
@[simp] theorem shk_lst (k : Nat) (xs : List D) : D.shk (k + 1) (.lst xs) = xs.all (D.shk k) := by
  rw [← shk_all k xs]
  simp [D.shk, D.isPy, D.py, PyData.canLay0, PyData.depth]
@[simp] theorem shp_int (i : Int) : D.shp (.int i) = true := by rw [D.shp_eq, shk_int]
@[simp] theorem shp_bl (i : Bool) : D.shp (.bl i) = true := by rw [D.shp_eq, shk_bl]
@[simp] theorem shp_non : D.shp .non = true := by rw [D.shp_eq, shk_non]
@[simp] theorem shp_tup (xs : List D) : D.shp (.tup xs) = xs.all (D.shk 63) := by rw [D.shp_eq, shk_tup]
@[simp] theorem shp_lst (xs : List D) : D.shp (.lst xs) = xs.all (D.shk 63) := by rw [D.shp_eq, shk_lst]
theorem shp_str (s : Str) : D.shp (.str s) = PyData.canLay0 (.str s) := by rw [D.shp_eq, shk_str]
@[simp] theorem shk63_tup (xs : List D) : D.shk 63 (.tup xs) = xs.all (D.shk 62) := shk_tup 62 xs
@[simp] theorem shk62_tup (xs : List D) : D.shk 62 (.tup xs) = xs.all (D.shk 61) := shk_tup 61 xs
@[simp] theorem shk61_tup (xs : List D) : D.shk 61 (.tup xs) = xs.all (D.shk 60) := shk_tup 60 xs
@[simp] theorem shk63_lst (xs : List D) : D.shk 63 (.lst xs) = xs.all (D.shk 62) := shk_lst 62 xs
@[simp] theorem shk62_lst (xs : List D) : D.shk 62 (.lst xs) = xs.all (D.shk 61) := shk_lst 61 xs
@[simp] theorem shk61_lst (xs : List D) : D.shk 61 (.lst xs) = xs.all (D.shk 60) := shk_lst 60 xs
/-- equal data, told by data alone -/
def D.eqv (d e : D) : Bool := PyData.eqv d.py e.py
def D.eqvs : List D → List D → Bool
  | [], [] => true
  | x :: xs, y :: ys => D.eqv x y && D.eqvs xs ys
  | [], _ :: _ => false
  | _ :: _, [] => false
theorem eqvAll_pys : ∀ xs ys : List D, PyData.eqvAll (D.pys xs) (D.pys ys) = D.eqvs xs ys
  | [], [] => by simp [D.pys, PyData.eqvAll, D.eqvs]
  | [], y :: ys => by simp [D.pys, PyData.eqvAll, D.eqvs]
  | x :: xs, [] => by simp [D.pys, PyData.eqvAll, D.eqvs]
  | x :: xs, y :: ys => by simp [D.pys, PyData.eqvAll, D.eqvs, D.eqv, eqvAll_pys xs ys]
@[simp] theorem eqvs_nil : D.eqvs [] [] = true := rfl
@[simp] theorem eqvs_cons (x y : D) (xs ys : List D) : D.eqvs (x :: xs) (y :: ys) = (D.eqv x y && D.eqvs xs ys) := rfl
@[simp] theorem eqvs_nc (x : D) (xs : List D) : D.eqvs [] (x :: xs) = false := rfl
@[simp] theorem eqvs_cn (x : D) (xs : List D) : D.eqvs (x :: xs) [] = false := rfl
@[simp] theorem eqv_int (i j : Int) : D.eqv (.int i) (.int j) = decide (i = j) := by simp [D.eqv, D.py, PyData.eqv, Bool.beq_eq_decide_eq]
@[simp] theorem eqv_bl (i j : Bool) : D.eqv (.bl i) (.bl j) = (i == j) := by simp [D.eqv, D.py, PyData.eqv]
@[simp] theorem eqv_str (i j : Str) : D.eqv (.str i) (.str j) = (i == j) := by simp [D.eqv, D.py, PyData.eqv]
@[simp] theorem eqv_tup (xs ys : List D) : D.eqv (.tup xs) (.tup ys) = D.eqvs xs ys := by simp [D.eqv, D.py, PyData.eqv, eqvAll_pys]
@[simp] theorem eqv_lst (xs ys : List D) : D.eqv (.lst xs) (.lst ys) = D.eqvs xs ys := by simp [D.eqv, D.py, PyData.eqv, eqvAll_pys]
@[simp] theorem eqv_non : D.eqv .non .non = true := by simp [D.eqv, D.py, PyData.eqv]
@[simp] theorem eqv_tl (xs ys : List D) : D.eqv (.tup xs) (.lst ys) = false := by simp [D.eqv, D.py, PyData.eqv]
@[simp] theorem eqv_lt (xs ys : List D) : D.eqv (.lst xs) (.tup ys) = false := by simp [D.eqv, D.py, PyData.eqv]
@[simp] theorem eqv_ni (i : Int) : D.eqv .non (.int i) = false := by simp [D.eqv, D.py, PyData.eqv]
@[simp] theorem eqv_in (i : Int) : D.eqv (.int i) .non = false := by simp [D.eqv, D.py, PyData.eqv]
@[simp] theorem opEq_ (st : Sto) (d e : D) : opEq st d e = if d.shp && e.shp then some (.bl (D.eqv d e)) else none := rfl
@[simp] theorem opNe_ (st : Sto) (d e : D) : opNe st d e = if d.shp && e.shp then some (.bl (!D.eqv d e)) else none := rfl
@[simp] theorem opIn_lst (st : Sto) (d : D) (xs : List D) : opIn st d (.lst xs) = if d.shp && (D.lst xs).shp then some (.bl (xs.any fun z => D.eqv z d)) else none := rfl
@[simp] theorem opNotIn_lst (st : Sto) (d : D) (xs : List D) : opNotIn st d (.lst xs) = if d.shp && (D.lst xs).shp then some (.bl (!xs.any fun z => D.eqv z d)) else none := rfl
mutual
/-- data without True and False -/
def D.pure : D → Bool
  | .non => true
  | .int _ => true
  | .str _ => true
  | .tup xs => D.pures xs
  | .lst xs => D.pures xs
  | _ => false
def D.pures : List D → Bool
  | [] => true
  | x :: xs => D.pure x && D.pures xs
end
mutual
theorem eqv_self : ∀ d : D, d.isPy = true → D.eqv d d = true
  | .non, _ => eqv_non
  | .bl b, _ => by simp
  | .int i, _ => by simp
  | .str s, _ => by simp
  | .tup xs, h => by rw [eqv_tup]; exact eqvs_self xs (by simpa [D.isPy] using h)
  | .lst xs, h => by rw [eqv_lst]; exact eqvs_self xs (by simpa [D.isPy] using h)
  | .ro _, h => by simp [D.isPy] at h
  | .cell _, h => by simp [D.isPy] at h
  | .exc _ _, h => by simp [D.isPy] at h
  | .dic, h => by simp [D.isPy] at h
  | .ty _, h => by simp [D.isPy] at h
  | .cls _, h => by simp [D.isPy] at h
  | .fn _ _ _ _ _, h => by simp [D.isPy] at h
theorem eqvs_self : ∀ xs : List D, D.arePy xs = true → D.eqvs xs xs = true
  | [], _ => rfl
  | x :: xs, h => by
    simp only [D.arePy, Bool.and_eq_true] at h
    rw [eqvs_cons, eqv_self x h.1, eqvs_self xs h.2]
    rfl
end
end FL
end
section
set_option Elab.async false
set_option linter.all false
set_option maxRecDepth 100000
set_option maxHeartbeats 1000000
namespace FL
open PySem PySem.Spec PyProof.Rows L2 LamX TL
/-! ## what repr gives of data without texts -/
theorem cps_int (z : Int) : (Str.ofString (toString z)).cps.toList = if z < 0 then 45 :: numL z.natAbs else numL z.natAbs := by
  show tl _ = _
  by_cases h : z < 0
  · rw [if_pos h, PyProof.Rows.toString_neg h, tl_ofString, String.toList_append, List.map_append]
    have e : (0 - z) = ((z.natAbs : Nat) : Int) := by omega
    rw [e]
    have := tl_num z.natAbs
    rw [tl_ofString] at this
    rw [this]
    rfl
  · rw [if_neg h]
    have e : z = ((z.natAbs : Nat) : Int) := by omega
    conv => lhs; rw [e]
    exact tl_num z.natAbs
def TOk (w : Str) : Prop := ∀ c ∈ tl w, c < 1114112
theorem TOk.app {v w : Str} (h : TOk v) (k : TOk w) : TOk (v ++ w) := by
  intro c hc
  rw [tl_append] at hc
  exact (List.mem_append.mp hc).elim (h c) (k c)
theorem TOk.shk {w : Str} (h : TOk w) (k : Nat) : D.shk k (.str w) = true := by
  rw [shk_str]
  show PyData.strOk w = true
  unfold PyData.strOk
  rw [← Array.all_toList, List.all_eq_true]
  intro c hc
  exact decide_eq_true (h c hc)
theorem TOk.shp {w : Str} (h : TOk w) : D.shp (.str w) = true := by rw [D.shp_eq, h.shk]
theorem TOk.lit {s : String} (h : ∀ c ∈ tl (Str.ofString s), c < 1114112 := by decide +kernel) : TOk (Str.ofString s) := h
theorem TOk.int (z : Int) : TOk (Str.ofString (toString z)) := by
  intro c hc
  have hc : c ∈ (Str.ofString (toString z)).cps.toList := hc
  rw [cps_int] at hc
  have := numL_digits z.natAbs c
  split at hc
  · rcases List.mem_cons.mp hc with e | e
    · omega
    · have := this e; omega
  · have := this hc; omega
theorem TOk.from_ : ∀ (ts : List Str) (k : Nat) (acc : Str), TOk acc → (∀ t ∈ ts, TOk t) → TOk (textFrom k acc ts)
  | [], _, _, h, _ => h
  | t :: ts, k, acc, h, hs => by
    refine TOk.from_ ts (k + 1) _ ((h.app ?_).app (hs t List.mem_cons_self)) fun u hu => hs u (List.mem_cons_of_mem _ hu)
    split
    · exact TOk.lit
    · exact TOk.lit
theorem TOk.list {ts : List Str} (hs : ∀ t ∈ ts, TOk t) : TOk (listText ts) := (TOk.from_ ts 0 _ TOk.lit hs).app TOk.lit
theorem TOk.join {sep : Str} (h : TOk sep) : ∀ ts : List Str, (∀ t ∈ ts, TOk t) → TOk (Str.join sep ts)
  | [], _ => by intro c hc; exact absurd hc (List.not_mem_nil)
  | [x], hs => hs x List.mem_cons_self
  | x :: y :: r, hs => ((hs x List.mem_cons_self).app h).app (TOk.join h (y :: r) fun u hu => hs u (List.mem_cons_of_mem _ hu))
theorem TOk.tup {ts : List Str} (hs : ∀ t ∈ ts, TOk t) : TOk (tupleText ts) := by
  unfold tupleText
  refine ((TOk.lit (s := "(")).app (TOk.join (TOk.lit (s := ", ")) ts hs)).app ?_
  split
  · exact TOk.lit
  · exact TOk.lit
mutual
/-- can be shown; how deep; how long at most -/
def D.rp : D → Bool
  | .non => true
  | .bl _ => true
  | .int i => decide (i.natAbs.log2 < 1920)
  | .tup xs => D.rps xs
  | .lst xs => D.rps xs
  | _ => false
def D.rps : List D → Bool
  | [] => true
  | x :: xs => D.rp x && D.rps xs
end
mutual
def D.rd : D → Nat
  | .tup xs => D.rds xs + 1
  | .lst xs => D.rds xs + 1
  | _ => 0
def D.rds : List D → Nat
  | [] => 0
  | x :: xs => max (D.rd x) (D.rds xs)
end
mutual
def D.rl : D → Nat
  | .tup xs => D.rls xs + 3
  | .lst xs => D.rls xs + 3
  | .int _ => 2001
  | _ => 5
def D.rls : List D → Nat
  | [] => 0
  | x :: xs => D.rl x + 2 + D.rls xs
end
theorem int_short {i : Int} (h : i.natAbs.log2 < 1920) : (Str.ofString (toString i)).length ≤ 2001 := by
  have h1 : i.natAbs < 10 ^ 2000 := by
    by_cases e : i.natAbs = 0
    · rw [e]; exact Nat.pos_of_ne_zero (by simp)
    · have h2 : i.natAbs < 2 ^ 1920 := (Nat.log2_lt e).mp h
      have h3 : 2 ^ 1920 ≤ 2 ^ 2000 := Nat.pow_le_pow_right (by decide) (by decide)
      have h4 : 2 ^ 2000 ≤ 10 ^ 2000 := Nat.pow_le_pow_left (by decide) 2000
      exact Nat.lt_of_lt_of_le h2 (Nat.le_trans h3 h4)
  have h2 := numL_len (n := i.natAbs) (k := 2000) (by decide) h1
  have e : (Str.ofString (toString i)).length = (Str.ofString (toString i)).cps.toList.length := by simp [Str.length]
  rw [e, cps_int]
  split
  · simp; omega
  · omega
mutual
theorem rp_all : ∀ d : D, d.rp = true → d.isPy = true ∧ d.py.showable = true ∧ d.py.depth = d.rd ∧ d.py.shown.length ≤ d.rl ∧ TOk d.py.shown
  | .non, _ => by
    refine ⟨rfl, ?_, ?_, ?_, ?_⟩
    · rw [D.py, PyData.showable]
    · rw [D.py, PyData.depth, D.rd] <;> simp
    · rw [D.py, PyData.shown, D.rl] <;> first | decide +kernel | simp
    · rw [D.py, PyData.shown]; exact TOk.lit
  | .bl b, _ => by
    refine ⟨rfl, ?_, ?_, ?_, ?_⟩
    · rw [D.py, PyData.showable]
    · rw [D.py, PyData.depth, D.rd] <;> simp
    · rw [D.py, PyData.shown, D.rl] <;> first | (cases b <;> decide +kernel) | simp
    · rw [D.py, PyData.shown]; cases b <;> exact TOk.lit
  | .int i, h => by
    rw [D.rp] at h
    refine ⟨rfl, ?_, ?_, ?_, ?_⟩
    · rw [D.py, PyData.showable]; exact h
    · rw [D.py, PyData.depth, D.rd] <;> simp
    · rw [D.py, PyData.shown, D.rl]; exact int_short (of_decide_eq_true h)
    · rw [D.py, PyData.shown]; exact TOk.int i
  | .tup xs, h => by
    rw [D.rp] at h
    obtain ⟨h1, h2, h3, h4, h5, h6⟩ := rps_all xs h
    refine ⟨by rw [D.isPy]; exact h1, by rw [D.py, PyData.showable]; exact h2, by rw [D.py, PyData.depth, D.rd, h3], ?_, ?_⟩
    · rw [D.py, PyData.shown, D.rl]
      have := tupleText_len_le (PyData.shownAll (D.pys xs))
      omega
    · rw [D.py, PyData.shown]; exact TOk.tup h6
  | .lst xs, h => by
    rw [D.rp] at h
    obtain ⟨h1, h2, h3, h4, h5, h6⟩ := rps_all xs h
    refine ⟨by rw [D.isPy]; exact h1, by rw [D.py, PyData.showable]; exact h2, by rw [D.py, PyData.depth, D.rd, h3], ?_, ?_⟩
    · rw [D.py, PyData.shown, D.rl]
      have := listText_len_le (PyData.shownAll (D.pys xs))
      omega
    · rw [D.py, PyData.shown]; exact TOk.list h6
  | .str _, h => by simp [D.rp] at h
  | .ro _, h => by simp [D.rp] at h
  | .cell _, h => by simp [D.rp] at h
  | .exc _ _, h => by simp [D.rp] at h
  | .dic, h => by simp [D.rp] at h
  | .ty _, h => by simp [D.rp] at h
  | .cls _, h => by simp [D.rp] at h
  | .fn _ _ _ _ _, h => by simp [D.rp] at h
theorem rps_all : ∀ xs : List D, D.rps xs = true → D.arePy xs = true ∧ PyData.showableAll (D.pys xs) = true ∧ PyData.depthAll (D.pys xs) = D.rds xs ∧ ((PyData.shownAll (D.pys xs)).map (·.length)).sum + 2 * (PyData.shownAll (D.pys xs)).length ≤ D.rls xs ∧ (PyData.shownAll (D.pys xs)).length = xs.length ∧ ∀ t ∈ PyData.shownAll (D.pys xs), TOk t
  | [], _ => by
    refine ⟨rfl, ?_, ?_, ?_, ?_, ?_⟩
    · rw [D.pys, PyData.showableAll]
    · rw [D.pys, PyData.depthAll, D.rds]
    · rw [D.pys, PyData.shownAll, D.rls]; simp
    · rw [D.pys, PyData.shownAll]; rfl
    · rw [D.pys, PyData.shownAll]; simp
  | x :: xs, h => by
    rw [D.rps, Bool.and_eq_true] at h
    obtain ⟨a1, a2, a3, a4, a5⟩ := rp_all x h.1
    obtain ⟨h1, h2, h3, h4, h5, h6⟩ := rps_all xs h.2
    refine ⟨by rw [D.arePy, a1, h1]; rfl, by rw [D.pys, PyData.showableAll, a2, h2]; rfl, by rw [D.pys, PyData.depthAll, D.rds, a3, h3], ?_, ?_, ?_⟩
    · rw [D.pys, PyData.shownAll, D.rls]
      simp only [List.map_cons, List.sum_cons, List.length_cons]
      omega
    · rw [D.pys, PyData.shownAll]; simp [h5]
    · rw [D.pys, PyData.shownAll]
      intro t ht
      rcases List.mem_cons.mp ht with e | e
      · rw [e]; exact a5
      · exact h6 t e
end
/-- the text that repr gives -/
def D.rtx (d : D) : Str := d.py.shown
theorem rtx_shp {d : D} (h : d.rp = true) : D.shp (.str d.rtx) = true := (rp_all d h).2.2.2.2.shp
theorem opRepr_lst (st : Sto) (xs : List D) (h : (D.lst xs).rp = true) (hd : (D.lst xs).rd ≤ 60) (hl : (D.lst xs).rl ≤ 16777216) : opRepr st [.lst xs] = some (.str (D.lst xs).rtx) := by
  obtain ⟨h1, h2, h3, h4, h5⟩ := rp_all _ h
  have h1' : D.arePy xs = true := h1
  unfold opRepr
  dsimp only
  rw [h1', h2, decide_eq_true (show (D.lst xs).py.depth ≤ 60 by omega), decide_eq_true (show (D.lst xs).py.shown.length ≤ 16777216 by omega)]
  rfl
theorem opRepr_tup (st : Sto) (xs : List D) (h : (D.tup xs).rp = true) (hd : (D.tup xs).rd ≤ 60) (hl : (D.tup xs).rl ≤ 16777216) : opRepr st [.tup xs] = some (.str (D.tup xs).rtx) := by
  obtain ⟨h1, h2, h3, h4, h5⟩ := rp_all _ h
  have h1' : D.arePy xs = true := h1
  unfold opRepr
  dsimp only
  rw [h1', h2, decide_eq_true (show (D.tup xs).py.depth ≤ 60 by omega), decide_eq_true (show (D.tup xs).py.shown.length ≤ 16777216 by omega)]
  rfl
end FL
end
section
set_option Elab.async false
set_option linter.all false
set_option maxRecDepth 100000
set_option maxHeartbeats 1000000
namespace FL
open PySem PySem.Spec PyProof.Rows L2 LamX
/-! ## one step at a time -/
section
variable {γ γ1 : Gam} {st st1 st2 st3 : Sto} {fa fb fc : EF} {d e r : D} {a b : SF} {t u : TF} {ds : List D} {f : FF} {aa ar : AF} {k : Bool}
theorem var_ok {i : Nat} (h : γ[i]? = some (some d)) : eVar i γ st = .ok d st := by simp only [eVar, h]
theorem e2_ok {op : Op2} (h1 : fa γ st = .ok d st1) (h2 : fb γ st1 = .ok e st2) (h3 : op st2 d e = some r) : e2 op fa fb γ st = .ok r st2 := by
  simp only [e2, h1, h2, Res.bind, h3, Res.of]
theorem e1_ok {op : Op1} (h1 : fa γ st = .ok d st1) (h3 : op st1 d = some r) : e1 op fa γ st = .ok r st1 := by
  simp only [e1, h1, Res.bind, h3, Res.of]
theorem nil_ok : aNil γ st = .ok [] st := rfl
theorem cons_ok (h1 : fa γ st = .ok d st1) (h2 : ar γ st1 = .ok ds st2) : aCons fa ar γ st = .ok (d :: ds) st2 := by
  simp only [aCons, h1, h2, Res.bind]
theorem one_ok (h1 : fa γ st = .ok d st1) : aCons fa aNil γ st = .ok [d] st1 := cons_ok h1 rfl
theorem two_ok (h1 : fa γ st = .ok d st1) (h2 : fb γ st1 = .ok e st2) : aCons fa (aCons fb aNil) γ st = .ok [d, e] st2 := cons_ok h1 (one_ok h2)
theorem lst_ok (h : aa γ st = .ok ds st1) (hl : ds.length ≤ 16777216) : eLst aa γ st = .ok (.lst ds) st1 := by
  simp only [eLst, h, Res.bind, kLst, if_pos hl]
theorem tup_ok (h : aa γ st = .ok ds st1) (hl : ds.length ≤ 16777216) : eTup aa γ st = .ok (.tup ds) st1 := by
  simp only [eTup, h, Res.bind, kTup, if_pos hl]
theorem call_ok {n : Nat} {x : Res D} (h : aa γ st = .ok ds st1) (hl : ds.length = n) (h2 : f ds st1 = x) : eCall n f aa γ st = x := by
  simp only [eCall, h, Res.bind, kFn, if_pos hl, h2]
theorem call1 {x : Res D} (h1 : fa γ st = .ok d st1) (h2 : f [d] st1 = x) : eCall 1 f (aCons fa aNil) γ st = x := call_ok (one_ok h1) rfl h2
theorem call2 {x : Res D} (h1 : fa γ st = .ok d st1) (h2 : fb γ st1 = .ok e st2) (h3 : f [d, e] st2 = x) : eCall 2 f (aCons fa (aCons fb aNil)) γ st = x := call_ok (two_ok h1 h2) rfl h3
theorem callX_ok {n m : Nat} {arr : List SrcD} {es : List D} {x : Res D} (h : aa γ st = .ok ds st1) (h1 : ar γ st1 = .ok es st2) (hl : ds.length = n) (hm : es.length = m) (h2 : f (arr.map (SrcD.X ds es)) st2 = x) : eCallX n m arr f aa ar γ st = x := by
  simp only [eCallX, h, h1, Res.bind, kCallX, if_pos (And.intro hl hm), h2]
theorem built_ok {op : OpN} (h : aa γ st = .ok ds st1) (h2 : op st1 ds = some r) : eBuilt op aa γ st = .ok r st1 := by
  simp only [eBuilt, h, Res.bind, kOpN, h2, Res.of]
theorem tval_ok (h : fa γ st = .ok (.bl k) st1) : tVal fa γ st = .ok k st1 := by
  simp only [tVal, h, Res.bind, truth, Res.of]
theorem tor_t (h : t γ st = .ok true st1) : tOrF t u γ st = .ok true st1 := by simp only [tOrF, h, Res.bind, if_true]
theorem tor_f {x : Res Bool} (h : t γ st = .ok false st1) (h2 : u γ st1 = x) : tOrF t u γ st = x := by simp only [tOrF, h, Res.bind, Bool.false_eq_true, if_false, h2]
theorem tand_f (h : t γ st = .ok false st1) : tAndF t u γ st = .ok false st1 := by simp only [tAndF, h, Res.bind, Bool.false_eq_true, if_false]
theorem tand_t {x : Res Bool} (h : t γ st = .ok true st1) (h2 : u γ st1 = x) : tAndF t u γ st = x := by simp only [tAndF, h, Res.bind, if_true, h2]
theorem tnot_ok (h : t γ st = .ok k st1) : tNotF t γ st = .ok (!k) st1 := by simp only [tNotF, h, Res.bind]
theorem eif_t {x : Res D} (h : t γ st = .ok true st1) (h2 : fa γ st1 = x) : eIf t fa fb γ st = x := by simp only [eIf, h, Res.bind, if_true, h2]
theorem eif_f {x : Res D} (h : t γ st = .ok false st1) (h2 : fb γ st1 = x) : eIf t fa fb γ st = x := by simp only [eIf, h, Res.bind, Bool.false_eq_true, if_false, h2]
theorem eand_t {x : Res D} (h : fa γ st = .ok (.bl true) st1) (h2 : fb γ st1 = x) : eAndB fa fb γ st = x := by simp only [eAndB, h, Res.bind, h2]
theorem eand_f (h : fa γ st = .ok (.bl false) st1) : eAndB fa fb γ st = .ok (.bl false) st1 := by simp only [eAndB, h, Res.bind]
theorem eor_f {x : Res D} (h : fa γ st = .ok (.bl false) st1) (h2 : fb γ st1 = x) : eOrB fa fb γ st = x := by simp only [eOrB, h, Res.bind, h2]
theorem eor_t (h : fa γ st = .ok (.bl true) st1) : eOrB fa fb γ st = .ok (.bl true) st1 := by simp only [eOrB, h, Res.bind]
theorem seq_to {x : Fl} (h : a γ st = .nx γ1 st1) (h2 : b γ1 st1 = x) : sSeq a b γ st = x := by simp only [sSeq, h, h2]
theorem seq_rt (h : a γ st = .rt d st1) : sSeq a b γ st = .rt d st1 := by simp only [sSeq, h]
theorem asg_ok {g : Tg} (h : fa γ st = .ok d st1) (h2 : g.put d γ = some γ1) : sAsg g fa γ st = .nx γ1 st1 := by simp only [sAsg, h, Res.fl, kPut, h2]
theorem set_ok {i : Nat} (h : fa γ st = .ok d st1) : sAsg (.nm i) fa γ st = .nx (γ.set i (some d)) st1 := asg_ok h rfl
theorem ret_ok (h : fa γ st = .ok d st1) : sRet fa γ st = .rt d st1 := by simp only [sRet, h, Res.fl]
theorem if_t {x : Fl} (h : t γ st = .ok true st1) (h2 : a γ st1 = x) : sIf t a b γ st = x := by simp only [sIf, h, Res.fl, if_true, h2]
theorem if_f {x : Fl} (h : t γ st = .ok false st1) (h2 : b γ st1 = x) : sIf t a b γ st = x := by simp only [sIf, h, Res.fl, Bool.false_eq_true, if_false, h2]
theorem if_no (h : t γ st = .ok false st1) : sIf t a sNil γ st = .nx γ st1 := if_f h rfl
theorem par2_ok {i j : Nat} (h : aa γ st = .ok [d, e] st1) : sPar [i, j] aa γ st = .nx ((γ.set i (some d)).set j (some e)) st1 := by simp only [sPar, h, Res.fl, kPar]
theorem par3_ok {i j l : Nat} (h : aa γ st = .ok [d, e, r] st1) : sPar [i, j, l] aa γ st = .nx (((γ.set i (some d)).set j (some e)).set l (some r)) st1 := by simp only [sPar, h, Res.fl, kPar]
theorem three_ok {x : D} (h1 : fa γ st = .ok d st1) (h2 : fb γ st1 = .ok e st2) (h3 : fc γ st2 = .ok x st3) : aCons fa (aCons fb (aCons fc aNil)) γ st = .ok [d, e, x] st3 := cons_ok h1 (two_ok h2 h3)
theorem cmp_ok {vs : List Nat} {g : Tg} {fi : IF} {c : TF} {es : List D} (h : fi γ st = .ok ds st1) (hl : ds.length < 16777216) (h2 : compL g c fa (wipeG γ vs) ds st1 = .ok es st2) : eComp vs g fi c fa γ st = .ok (.lst es) st2 := by
  simp only [eComp, h, Res.bind, kComp, if_pos hl, h2]
theorem any_ok (h : fa γ st = .ok (.lst ds) st1) : iAny fa γ st = .ok ds st1 := by simp only [iAny, h, Res.bind, kAny]
theorem anyT_ok (h : fa γ st = .ok (.tup ds) st1) : iAny fa γ st = .ok ds st1 := by simp only [iAny, h, Res.bind, kAny]
theorem for_ok {g : Tg} {fi : IF} {x : Fl} (h : fi γ st = .ok ds st1) (h2 : forL g a ds γ st1 = x) : sFor g fi a γ st = x := by simp only [sFor, h, Res.fl, h2]
theorem forL_nil {g : Tg} : forL g a [] γ st = .nx γ st := rfl
theorem forL_nx {g : Tg} {γ2 : Gam} {x : Fl} (h : g.put d γ = some γ1) (h1 : a γ1 st = .nx γ2 st1) (h2 : forL g a ds γ2 st1 = x) : forL g a (d :: ds) γ st = x := by
  simp only [forL, h, h1, h2]
theorem forL_rt {g : Tg} (h : g.put d γ = some γ1) (h1 : a γ1 st = .rt e st1) : forL g a (d :: ds) γ st = .rt e st1 := by
  simp only [forL, h, h1]
theorem forL_bk {g : Tg} {γ2 : Gam} (h : g.put d γ = some γ1) (h1 : a γ1 st = .bk γ2 st1) : forL g a (d :: ds) γ st = .nx γ2 st1 := by
  simp only [forL, h, h1]
theorem forL_ct {g : Tg} {γ2 : Gam} {x : Fl} (h : g.put d γ = some γ1) (h1 : a γ1 st = .ct γ2 st1) (h2 : forL g a ds γ2 st1 = x) : forL g a (d :: ds) γ st = x := by
  simp only [forL, h, h1, h2]
theorem whl_nx {n : Nat} {γ2 : Gam} {x : Fl} (hc : t γ st = .ok true st1) (hb : a γ st1 = .nx γ2 st2) (h : whileF t a n γ2 st2 = x) : whileF t a (n + 1) γ st = x := by
  simp only [whileF, hc, Res.fl, if_true, hb, h]
theorem whl_no {n : Nat} (hc : t γ st = .ok false st1) : whileF t a (n + 1) γ st = .nx γ st1 := by
  simp only [whileF, hc, Res.fl, Bool.false_eq_true, if_false]
theorem rng_ok0 (n : Int) (h1 : n < 1000000) (h0 : -1000000 < n) (st : Sto) : kRng1 [.int n] st = .ok (rangeD 0 n.toNat) st := by
  show (if -(2 ^ 62) ≤ n ∧ n < 2 ^ 62 then _ else _) = _
  rw [if_pos ⟨by omega, by omega⟩]
theorem rng_to {n : Int} (h : fa γ st = .ok (.int n) st1) (h1 : n < 1000000) (h0 : -1000000 < n) : iRng1 (aCons fa aNil) γ st = .ok (rangeD 0 n.toNat) st1 := by
  simp only [iRng1, one_ok h, Res.bind]
  exact rng_ok0 n h1 h0 st1
end
end FL
end
section
set_option Elab.async false
set_option linter.all false
set_option maxRecDepth 100000
set_option maxHeartbeats 1000000
namespace FL
open PySem PySem.Spec PyProof.Rows L2 LamX
/-! ## xs[::-1] -/
@[simp] def kRev (d : D) (st : Sto) : Res D := match d with
  | .lst xs => .ok (.lst xs.reverse) st
  | .ro xs => .ok (.lst xs.reverse) st
  | .cell n => match st[n]? with
    | some (some (.lst xs)) => .ok (.lst xs.reverse) st
    | _ => .bad
  | _ => .bad
@[simp] def eRev (f : EF) : EF := fun γ st => (f γ st).bind kRev
section
variable {X : Cx} {g : Gx} {W : WX} {pos : Pos} {e : Expr} {f : EF}
theorem fe_rev {k : Nat} {p1 p2 p3 : Pos} (hK : Gok X g) (he : PE X e (tF g W f)) : PE X (.Subscript e (.Slice none none (some (.UnaryOp .USub (.Constant (.int 1) k p1) p2)) p3) pos) (tF g W (eRev f)) := by
  refine (pe_revL he).imp ?_
  rintro σ H Q ⟨γ, S, ρ, F, st, hv, hc, hr⟩
  refine ⟨γ, S, ρ, F, st, hv, hc, (RG.bind_ (R := fun S ρ => DV g S ρ) (k := kRev) hr).imp ?_⟩
  rintro x H1 ⟨S1, ρ1, st1, d, le1, c1, rx, h1⟩
  have fin : ∀ (a : Addr) (xs : List V) (ds : List D), x = .ref a → SqL X.K H1 a xs → DVs g S1 ρ1 xs ds → RG g (fun cls dd H => W cls dd σ H) F (fun S ρ => DV g S ρ) S1 ρ1 Q (.ok (.lst ds.reverse) st1) →
      ∃ a xs, x = .ref a ∧ SqL X.K H1 a xs ∧ ∀ p, H1 p = none → Q (.ref p) (upd H1 p (.lst xs.reverse)) := by
    intro a xs ds e h2 r h3
    refine ⟨a, xs, e, h2, fun p hp => ?_⟩
    obtain ⟨c2, le2⟩ := c1.laid (p := p) (o := .lst xs.reverse) hp
    exact h3 _ _ _ _ le2 c2 (.lst upd_same (r.reverse.mono le2))
  dsimp only [kRev] at h1
  split at h1
  · obtain ⟨a, xs, rfl, h2, r1⟩ := rx.lst_
    exact fin a xs _ rfl (SqL.of (c1.sub _ _ h2)) r1 h1
  · obtain ⟨a, xs, rfl, h2, r1⟩ := rx.ro_
    exact fin a xs _ rfl (by rw [← hK.K]; exact c1.sqL h2) r1 h1
  · split at h1
    · rename_i ds hds
      obtain ⟨a, xs, rfl, _, h2, r1⟩ := c1.cell rx hds
      exact fin a xs _ rfl (SqL.of h2) r1 h1
    · exact h1.elim
  · exact h1.elim
/-! ## {} and {i: j}, as things that are only handed on -/
@[simp] def eDic : EF := fun _ st => .ok .dic st
theorem fe_dic0 : PE X (.Dict [] [] pos) (tF g W eDic) := by
  refine pe_dnewK.imp ?_
  rintro σ H Q ⟨γ, S, ρ, F, st, hv, hc, hr⟩ p hp
  obtain ⟨c2, le2⟩ := hc.laid (p := p) (o := .dK []) hp
  exact hr _ _ _ _ le2 c2 (.dic upd_same)
theorem fe_dic1 {i j : Int} {k1 k2 : Nat} {p1 p2 : Pos} : PE X (.Dict [some (.Constant (.int i) k1 p1)] [.Constant (.int j) k2 p2] pos) (tF g W eDic) := by
  refine (pe_disp (pps_cons pe_int pe_int pps_nil) rfl rfl (by simp) (by simp)).imp ?_
  rintro σ H Q ⟨γ, S, ρ, F, st, hv, hc, hr⟩ p hp
  refine ⟨upd_same, [(.inl i, .int j)], rfl, by simp, ?_⟩
  rw [upd_upd]
  obtain ⟨c2, le2⟩ := hc.laid (p := p) (o := .dK (mergeK [] [(.inl i, .int j)])) hp
  exact hr _ _ _ _ le2 c2 (.dic upd_same)
end
@[simp] theorem opIsi_dic (sub : Str → Str → Option Bool) (st : Sto) (b : String) : opIsi sub st [.dic, .ty b] = (isiB "dict" b).map .bl := rfl
end FL
end
section
set_option Elab.async false
set_option linter.all false
set_option maxRecDepth 100000
set_option maxHeartbeats 1000000
namespace FL
open PySem PySem.Spec PyProof.Rows L2 LamX
/-! ## more steps -/
section
variable {a b : EF} {γ : Gam} {st st1 st2 : Sto} {i j : Int}
theorem mul_ok (h1 : a γ st = .ok (.int i) st1) (h2 : b γ st1 = .ok (.int j) st2) (hg : i.natAbs.log2 + j.natAbs.log2 < 134000000) : e2 opMul a b γ st = .ok (.int (i * j)) st2 := e2_ok h1 h2 (by rw [opMul_int, if_pos hg])
theorem add_ok (h1 : a γ st = .ok (.int i) st1) (h2 : b γ st1 = .ok (.int j) st2) : e2 opAdd a b γ st = .ok (.int (i + j)) st2 := e2_ok h1 h2 rfl
theorem sub_ok (h1 : a γ st = .ok (.int i) st1) (h2 : b γ st1 = .ok (.int j) st2) : e2 opSub a b γ st = .ok (.int (i - j)) st2 := e2_ok h1 h2 rfl
theorem neg_ok (h1 : a γ st = .ok (.int i) st1) : e1 opNeg a γ st = .ok (.int (-i)) st1 := e1_ok h1 rfl
theorem div_ok (h1 : a γ st = .ok (.int i) st1) (h2 : b γ st1 = .ok (.int j) st2) (h0 : 0 < j) (hl : j.natAbs.log2 < 9000) : e2 opDiv a b γ st = .ok (.int (i / j)) st2 := e2_ok h1 h2 (by rw [opDiv_int, if_pos ⟨h0, hl⟩])
theorem lt_ok (h1 : a γ st = .ok (.int i) st1) (h2 : b γ st1 = .ok (.int j) st2) : e2 opLt a b γ st = .ok (.bl (decide (i < j))) st2 := e2_ok h1 h2 rfl
theorem le_ok (h1 : a γ st = .ok (.int i) st1) (h2 : b γ st1 = .ok (.int j) st2) : e2 opLe a b γ st = .ok (.bl (decide (i ≤ j))) st2 := e2_ok h1 h2 rfl
theorem gt_ok (h1 : a γ st = .ok (.int i) st1) (h2 : b γ st1 = .ok (.int j) st2) : e2 opGt a b γ st = .ok (.bl (decide (j < i))) st2 := e2_ok h1 h2 rfl
theorem ge_ok (h1 : a γ st = .ok (.int i) st1) (h2 : b γ st1 = .ok (.int j) st2) : e2 opGe a b γ st = .ok (.bl (decide (j ≤ i))) st2 := e2_ok h1 h2 rfl
theorem eqi_ok (h1 : a γ st = .ok (.int i) st1) (h2 : b γ st1 = .ok (.int j) st2) : e2 opEq a b γ st = .ok (.bl (decide (i = j))) st2 := e2_ok h1 h2 (by simp)
theorem nei_ok (h1 : a γ st = .ok (.int i) st1) (h2 : b γ st1 = .ok (.int j) st2) : e2 opNe a b γ st = .ok (.bl (!decide (i = j))) st2 := e2_ok h1 h2 (by simp)
end
/-- xs.append(d) -/
theorem app_ok {fo fa : EF} {γ : Gam} {st st1 st2 : Sto} {n : Nat} {xs ys : List D} {d : D} (h1 : fo γ st = .ok (.cell n) st1) (h2 : st1[n]? = some (some (.lst xs))) (h3 : fa γ st1 = .ok d st2) (h4 : st2[n]? = some (some (.lst ys))) (hl : ys.length < 16777216) :
    eCellM ocAppend fo (aCons fa aNil) γ st = .ok .non (st2.set n (some (.lst (ys ++ [d])))) := by
  simp only [eCellM, h1, Res.bind, kLive, h2, if_true, one_ok h3, kCell, h4, ocAppend, if_pos hl]
theorem drop_ok {fe : EF} {γ : Gam} {st st1 : Sto} {d : D} (h : fe γ st = .ok d st1) : sDrop fe γ st = .nx γ st1 := by
  simp only [sDrop, h, Res.fl]
theorem cel_ok {aa : AF} {γ : Gam} {st st1 : Sto} {ds : List D} (h : aa γ st = .ok ds st1) (hl : ds.length ≤ 16777216) : eCel aa γ st = .ok (.cell st1.length) (st1 ++ [some (.lst ds)]) := by
  simp only [eCel, h, Res.bind, kCel, if_pos hl]
theorem rev_cell {f : EF} {γ : Gam} {st st1 : Sto} {n : Nat} {xs : List D} (h : f γ st = .ok (.cell n) st1) (h2 : st1[n]? = some (some (.lst xs))) : eRev f γ st = .ok (.lst xs.reverse) st1 := by
  simp only [eRev, h, Res.bind, kRev, h2]
theorem body_rt {sz : Nat} {b : SF} {ds : List D} {st st1 : Sto} {d : D} (h : b (startG sz ds) st = .rt d st1) : bodyF sz b ds st = .ok d st1 := by
  simp only [bodyF, h, finish]
theorem body_nx {sz : Nat} {b : SF} {ds : List D} {st st1 : Sto} {γ : Gam} (h : b (startG sz ds) st = .nx γ st1) : bodyF sz b ds st = .ok .non st1 := by
  simp only [bodyF, h, finish]
theorem body_ex {sz : Nat} {b : SF} {ds fs : List D} {st st1 : Sto} {γ : Gam} {c : Str} (h : b (startG sz ds) st = .ex c fs γ st1) : bodyF sz b ds st = .ex c fs st1 := by
  simp only [bodyF, h, finish]
theorem raise_ok {c : Str} {n : Nat} {fa : AF} {γ : Gam} {st st1 : Sto} {ds : List D} (h : fa γ st = .ok ds st1) (hl : ds.length = n) : sRaise c n fa γ st = .ex c ds γ st1 := by
  simp only [sRaise, h, Res.fl, kRaise, if_pos hl]
theorem seq_ex {a b : SF} {γ γ1 : Gam} {st st1 : Sto} {c : Str} {fs : List D} (h : a γ st = .ex c fs γ1 st1) : sSeq a b γ st = .ex c fs γ1 st1 := by simp only [sSeq, h]
theorem ne_self {d : D} (st : Sto) (h : D.shp d = true) (hp : D.isPy d = true) : opNe st d d = some (.bl false) := by
  rw [opNe_, h, eqv_self d hp]
  rfl
theorem eq_self' {d : D} (st : Sto) (h : D.shp d = true) (hp : D.isPy d = true) : opEq st d d = some (.bl true) := by
  rw [opEq_, h, eqv_self d hp]
  rfl
theorem rangeD_zero (lo : Int) : rangeD lo 0 = [] := rfl
theorem rangeD_succ (lo : Int) (n : Nat) : rangeD lo (n + 1) = .int lo :: rangeD (lo + 1) n := by
  unfold rangeD
  rw [List.range_succ_eq_map, List.map_cons, List.map_map]
  congr 1
  · simp
  · apply List.map_congr_left
    intro i _
    simp only [Function.comp]
    congr 1
    omega
theorem rng2_to {fa fb : EF} {γ : Gam} {st st1 st2 : Sto} {i j : Int} (h1 : fa γ st = .ok (.int i) st1) (h2 : fb γ st1 = .ok (.int j) st2) (hi : -1000000 < i ∧ i < 1000000) (hj : -1000000 < j ∧ j < 1000000) : iRng2 (aCons fa (aCons fb aNil)) γ st = .ok (rangeD i (j - i).toNat) st2 := by
  simp only [iRng2, two_ok h1 h2, Res.bind, kRng2]
  rw [if_pos ⟨by omega, by omega, by omega, by omega⟩]
theorem chain_t {op op' : Op2} {fa fb fc : EF} {γ : Gam} {st st1 st2 st3 : Sto} {d e f r : D} (h1 : fa γ st = .ok d st1) (h2 : fb γ st1 = .ok e st2) (ho : op st2 d e = some (.bl true)) (h3 : fc γ st2 = .ok f st3) (ho2 : op' st3 e f = some r) : eChain op op' fa fb fc γ st = .ok r st3 := by
  simp only [eChain, h1, h2, Res.bind, kChain, ho, h3, ho2, Res.of]
theorem chain_f {op op' : Op2} {fa fb fc : EF} {γ : Gam} {st st1 st2 : Sto} {d e : D} (h1 : fa γ st = .ok d st1) (h2 : fb γ st1 = .ok e st2) (ho : op st2 d e = some (.bl false)) : eChain op op' fa fb fc γ st = .ok (.bl false) st2 := by
  simp only [eChain, h1, h2, Res.bind, kChain, ho]
theorem tbl_ok {f : EF} {γ : Gam} {st st1 : Sto} {k : Bool} (h : f γ st = .ok (.bl k) st1) : tBl f γ st = .ok k st1 := by
  simp only [tBl, h, Res.bind, kBl]
theorem forL_app {g : Tg} {a : SF} : ∀ {xs ys : List D} {γ γ1 : Gam} {st st1 : Sto} {x : Fl}, (∀ (d : D) γ st γ2 st2, a γ st ≠ .bk γ2 st2) → forL g a xs γ st = .nx γ1 st1 → forL g a ys γ1 st1 = x → forL g a (xs ++ ys) γ st = x
  | [], ys, γ, γ1, st, st1, x, _, h, h2 => by
    simp only [forL] at h
    cases h
    exact h2
  | d :: xs, ys, γ, γ1, st, st1, x, nb, h, h2 => by
    simp only [List.cons_append, forL] at h ⊢
    cases e : g.put d γ with
    | none => rw [e] at h; cases h
    | some γ2 =>
      rw [e] at h
      dsimp only at h ⊢
      cases q : a γ2 st with
      | nx γ3 st3 => rw [q] at h; exact forL_app nb h h2
      | ct γ3 st3 => rw [q] at h; exact forL_app nb h h2
      | bk γ3 st3 => exact absurd q (nb d _ _ _ _)
      | rt d st3 => rw [q] at h; cases h
      | ex c fs γ3 st3 => rw [q] at h; cases h
      | bad => rw [q] at h; cases h
end FL
end
section
set_option Elab.async false
set_option linter.all false
set_option maxRecDepth 100000
set_option maxHeartbeats 2000000
namespace FL
open PySem PySem.Spec PyProof.Rows L2 LamX
/-! ## repr of a tuple of integers of up to 4300 figures -/
theorem call_int_reprW {prog : Program} {w : World} {A : Around} {E : Value → Shared → Prop} {s : Shared} {a : Int} {t : Tok} {Q : Value → Shared → Prop} (hn : s.heap.NoDigits) (hlt : a.natAbs < 10 ^ 4300)
    (h1 : Q (.str (toString a) s.toks) { s with toks := s.toks + 1 }) : wpAny (model prog w) A (call (.builtin "int.__repr__") [.int a t]) Q E s := by
  refine wpAny_call_entry F.slot_int_repr (typeIs_int s a t) F.entry_int_repr ?_ (F.args_int_repr_1 _)
  unfold Builtin.«int.__repr__»
  show wpAny _ _ (do let r ← Builtin.overDigitLimit? a; _) _ _ s
  refine wpAny_bind (overDigitLimit_any hn (fun hlt => ?_) (fun hge => absurd hlt (Nat.not_lt.mpr hge)))
  exact wpAny_bind (wpAny_mkStr (wpAny_pure ⟨_, rfl, h1⟩) (int_text_fits10 hlt))
theorem reprK_intW {prog : Program} {w : World} {h₀ : Heap} {a : Int} {t : Tok} (hn : h₀.NoDigits) (ha : a.natAbs < 10 ^ 4300) : ReprK prog w [] h₀ 0 (.int a t) (toString a) := by
  intro base hb A g E s Q hg hcl hu hk hQ
  rw [pyReprUnder_leaf (v := .int a t) (by omega) (fun _ e => nomatch e)]
  unfold pyRepr
  exact wpAny_bind (wpAny_pyReprObj_slot (by omega) (typeIs_int s a t) F.slot_int_repr.toG (call_int_reprW (hn.keeps hk) ha ⟨_, _, rfl, wpAny_pure (hQ s.heap _ fun _ _ e => e)⟩))
theorem reprAll_ints {prog : Program} {w : World} {h₀ : Heap} (hn : h₀.NoDigits) : ∀ (ns : List Int) (vs : List Value) (as : List Addr), (∀ i ∈ ns, i.natAbs < 10 ^ 4300) → ReadsAll h₀ vs (ns.map PyData.int) as → ReprAllK prog w [] h₀ 0 vs (ns.map fun i => (toString i : Str))
  | [], vs, as, _, h => by
    rw [List.map_nil] at h
    cases h
    exact .nil
  | n :: ns, vs, as, hz, h => by
    rw [List.map_cons] at h
    cases h with
    | cons h1 h2 =>
      cases h1
      exact .cons (reprK_intW hn (hz n List.mem_cons_self)) (reprAll_ints hn ns _ _ (fun i hi => hz i (List.mem_cons_of_mem _ hi)) h2)
def opReprW : OpN := fun st ds => match ds with
  | [.tup xs] => match intsOf xs with
    | some ns => if (ns.all fun i => decide (i.natAbs < 10 ^ 4300)) = true ∧ ns.length ≤ 100 then some (.str (tupleText (ns.map fun i => (toString i : Str)))) else none
    | none => opRepr st ds
  | _ => opRepr st ds
theorem pys_ints : ∀ ns : List Int, D.pys (ns.map D.int) = ns.map PyData.int
  | [] => by rw [List.map_nil, D.pys]; rfl
  | n :: ns => by rw [List.map_cons, D.pys, D.py, pys_ints ns]; rfl
theorem arePy_ints : ∀ ns : List Int, D.arePy (ns.map D.int) = true
  | [] => rfl
  | n :: ns => by rw [List.map_cons, D.arePy, D.isPy, arePy_ints ns]; rfl
theorem sum_le {l : List Nat} {k : Nat} (h : ∀ x ∈ l, x ≤ k) : l.sum ≤ k * l.length := by
  induction l with
  | nil => simp
  | cons a l ih =>
    have h1 := h a List.mem_cons_self
    have h2 := ih fun x hx => h x (List.mem_cons_of_mem _ hx)
    simp only [List.sum_cons, List.length_cons, Nat.mul_succ]
    omega
theorem okReprW {X : Cx} {g : Gx} (hK : Gok X g) (hgd : X.A.guards = some []) (hu : X.A.units + 64 < cLine) (hnd : X.base.NoDigits) : CallR X (.builtin "repr") (rDN g opReprW) := by
  rintro pins s σ H xs us Q I r ⟨ds, r', S, ρ, F, st, c, dx, ho, q⟩
  unfold opReprW at ho
  split at ho
  · rename_i ys
    split at ho
    · rename_i ns hns
      split at ho
      · rename_i hz
        cases ho
        obtain ⟨v, rfl, d1⟩ := dx.one_
        obtain ⟨a, zs, rfl, _, _⟩ := d1.tup_
        have ey : ys = ns.map D.int := intsOf_eq hns
        have hp : (D.tup ys).isPy = true := by rw [D.isPy, ey]; exact arePy_ints ns
        cases r with
        | cons r1 rs =>
          cases rs
          cases r1
          obtain ⟨as, hr⟩ := Dp.reads I (D.tup ys).py (.ref a) (.ref a) (by rw [← hK.K]; exact DV.dp c.sub _ d1 hp) rfl
          rw [D.py, ey, pys_ints] at hr
          cases hr with
          | tuple h1 h2 h3 h4 =>
            have hall : ∀ i ∈ ns, i.natAbs < 10 ^ 4300 := fun i hi => of_decide_eq_true (List.all_eq_true.mp hz.1 i hi)
            have hT := reprAll_ints (prog := X.prog) (w := X.w) (hnd.keeps I.bk) ns _ _ hall h4
            have hsz : (tupleText (ns.map fun i => (toString i : Str))).length ≤ sizeLine := by
              refine Nat.le_trans (tupleText_len_le _) ?_
              have hl := hz.2
              have : (((ns.map fun i => (toString i : Str))).map (·.length)).sum ≤ 4301 * (((ns.map fun i => (toString i : Str))).map (·.length)).length := sum_le (fun x hx => by
                obtain ⟨y, hy, rfl⟩ := List.mem_map.mp hx
                obtain ⟨i, hi, rfl⟩ := List.mem_map.mp hy
                have e : (Str.ofString (toString i)).length = (Str.ofString (toString i)).cps.toList.length := by simp [Str.length]
                show (Str.ofString (toString i)).length ≤ 4301
                rw [e, cps_int]
                have := TL.numL_len (n := i.natAbs) (k := 4300) (by decide) (hall i hi)
                split
                · simp; omega
                · omega)
              simp only [List.length_map] at this ⊢
              rw [sizeLine_eq]
              omega
            exact call_repr_slot (by omega) ⟨_, h1, h2⟩ PySem.F.slot_tuple_repr (call_tuple_reprK h1 h2 h3 (List.not_mem_nil) hT hgd (fun b _ => Clear.nil b) (by show X.A.units + 1 + (0 + 1) < cLine; omega) (fun _ _ z => z)
              (fun h' u tk hk => ⟨_, _, rfl, .str _, H, I.kept (t' := tk) hk, ⟨_, rfl⟩, q _ S ρ H (Le.refl _ _) c (.str _)⟩) hsz)
      · cases ho
    · exact okRepr hK hgd hu pins s σ H xs us Q I r ⟨_, r', S, ρ, F, st, c, dx, ho, q⟩
  · exact okRepr hK hgd hu pins s σ H xs us Q I r ⟨_, r', S, ρ, F, st, c, dx, ho, q⟩
theorem opReprW_two (st : Sto) (a b : Int) (ha : a.natAbs < 10 ^ 4300) (hb : b.natAbs < 10 ^ 4300) : opReprW st [.tup [.int a, .int b]] = some (.str (tupleText [(toString a : Str), (toString b : Str)])) := by
  have e : intsOf [D.int a, D.int b] = some [a, b] := rfl
  unfold opReprW
  simp only [e]
  rw [if_pos ⟨by simp only [List.all_cons, List.all_nil, decide_eq_true ha, decide_eq_true hb]; rfl, by simp⟩]
  rfl
theorem two_tok (a b : Int) : TOk (tupleText [(toString a : Str), (toString b : Str)]) := TOk.tup fun t ht => by
  simp only [List.mem_cons, List.not_mem_nil, or_false] at ht
  rcases ht with rfl | rfl
  · exact TOk.int a
  · exact TOk.int b
@[simp] theorem opReprW_non (st : Sto) : opReprW st [.non] = some (.str "None") := rfl
@[simp] theorem opReprW_lst (st : Sto) (xs : List D) : opReprW st [.lst xs] = opRepr st [.lst xs] := rfl
end FL
end
section
set_option Elab.async false
namespace K01
/-- strictly between a / b and c / d (d = 0: no end) -/
def Btw (a b c d x y : Int) : Prop := a * y < x * b ∧ x * d < c * y
/-- the simplest between -/
def Smp (a b c d p q : Int) : Prop := 0 < p ∧ 0 < q ∧ Btw a b c d p q ∧ ∀ x y : Int, 0 < y → Btw a b c d x y → q ≤ y ∧ p ≤ x
theorem lt_of_mul {x y b : Int} (hb : 0 < b) (h : x * b < y * b) : x < y := Int.lt_of_mul_lt_mul_right h (Int.le_of_lt hb)
theorem smp_base {a b c d w : Int} (hb : 0 < b) (hd : 0 ≤ d) (h0 : 0 ≤ a) (hw : w = a / b) (h : (w + 1) * d < c) : Smp a b c d (w + 1) 1 := by
  have hw0 : 0 ≤ w := by rw [hw]; exact Int.ediv_nonneg h0 (by omega)
  have e := Int.mul_ediv_add_emod a b
  have r0 := Int.emod_nonneg a (show b ≠ 0 by omega)
  have r1 := Int.emod_lt_of_pos a hb
  rw [← hw] at e
  refine ⟨by omega, by decide, ⟨?_, ?_⟩, fun x y hy hxy => ⟨by omega, ?_⟩⟩
  · have : (w + 1) * b = b * w + b := by grind
    omega
  · omega
  · have h1 : w * y * b ≤ a * y := by
      have : a * y = (b * w) * y + (a % b) * y := by rw [← Int.add_mul, e]
      have h2 : 0 ≤ (a % b) * y := Int.mul_nonneg r0 (by omega)
      have h3 : w * y * b = (b * w) * y := by grind
      omega
    have h4 : w * y < x := lt_of_mul hb (Int.lt_of_le_of_lt h1 hxy.1)
    have h5 : w * 1 ≤ w * y := Int.mul_le_mul_of_nonneg_left (by omega) hw0
    omega
theorem smp_step {a b c d w p q : Int} (hb : 0 < b) (h0 : 0 ≤ a) (hw : w = a / b) (h : Smp d (c - w * d) b (a - w * b) p q) : Smp a b c d (w * p + q) p := by
  obtain ⟨p0, q0, ⟨h1, h2⟩, h3⟩ := h
  have hw0 : 0 ≤ w := by rw [hw]; exact Int.ediv_nonneg h0 (by omega)
  have e := Int.mul_ediv_add_emod a b
  have r0 := Int.emod_nonneg a (show b ≠ 0 by omega)
  rw [← hw] at e
  have wp : 0 ≤ w * p := Int.mul_nonneg hw0 (by omega)
  refine ⟨by omega, p0, ⟨?_, ?_⟩, fun x y hy hxy => ?_⟩
  · have e1 : p * (a - w * b) = a * p - w * p * b := by grind
    have e2 : (w * p + q) * b = w * p * b + b * q := by grind
    omega
  · have e1 : p * (c - w * d) = c * p - w * p * d := by grind
    have e2 : (w * p + q) * d = w * p * d + d * q := by grind
    omega
  · obtain ⟨g1, g2⟩ := hxy
    have k1 : w * y * b ≤ a * y := by
      have : a * y = (b * w) * y + (a % b) * y := by rw [← Int.add_mul, e]
      have h2 : 0 ≤ (a % b) * y := Int.mul_nonneg r0 (by omega)
      have h3 : w * y * b = (b * w) * y := by grind
      omega
    have k2 : w * y < x := lt_of_mul hb (Int.lt_of_le_of_lt k1 g1)
    obtain ⟨m1, m2⟩ := h3 y (x - w * y) (by omega) ⟨by
      have e1 : d * (x - w * y) = x * d - w * y * d := by grind
      have e2 : y * (c - w * d) = c * y - w * y * d := by grind
      omega, by
      have e1 : y * (a - w * b) = a * y - w * y * b := by grind
      have e2 : b * (x - w * y) = x * b - w * y * b := by grind
      omega⟩
    have k3 : w * p ≤ w * y := Int.mul_le_mul_of_nonneg_left m2 hw0
    omega
/-- one alone is the simplest -/
theorem smp_inj {a b c d p q x y : Int} (h : Smp a b c d p q) (k : Smp a b c d x y) : p = x ∧ q = y := by
  obtain ⟨_, h2, h3, h4⟩ := h
  obtain ⟨_, k2, k3, k4⟩ := k
  have := h4 x y k2 k3
  have := k4 p q h2 h3
  omega
/-- neighbors have their mediant between them -/
theorem smp_near {a b c d : Int} (ha : 0 ≤ a) (hb : 0 < b) (hc : 0 < c) (hd : 0 < d) (h : c * b - a * d = 1) : Smp a b c d (a + c) (b + d) := by
  refine ⟨by omega, by omega, ⟨?_, ?_⟩, fun x y hy hxy => ?_⟩
  · have e1 : a * (b + d) = a * b + a * d := by grind
    have e2 : (a + c) * b = a * b + c * b := by grind
    omega
  · have e1 : (a + c) * d = a * d + c * d := by grind
    have e2 : c * (b + d) = c * b + c * d := by grind
    omega
  · obtain ⟨g1, g2⟩ := hxy
    -- u = x b - a y >= 1, v = c y - x d >= 1; y = u d + v b, x = u c + v a
    have u1 : 1 ≤ x * b - a * y := by omega
    have v1 : 1 ≤ c * y - x * d := by omega
    have ey : y = (x * b - a * y) * d + (c * y - x * d) * b := by
      have : (x * b - a * y) * d + (c * y - x * d) * b = y * (c * b - a * d) := by grind
      rw [this, h]; omega
    have ex : x = (x * b - a * y) * c + (c * y - x * d) * a := by
      have : (x * b - a * y) * c + (c * y - x * d) * a = x * (c * b - a * d) := by grind
      rw [this, h]; omega
    generalize x * b - a * y = u at *
    generalize c * y - x * d = v at *
    have k1 : 1 * d ≤ u * d := Int.mul_le_mul_of_nonneg_right u1 (by omega)
    have k2 : 1 * b ≤ v * b := Int.mul_le_mul_of_nonneg_right v1 (by omega)
    have k3 : 1 * c ≤ u * c := Int.mul_le_mul_of_nonneg_right u1 (by omega)
    have k4 : 1 * a ≤ v * a := Int.mul_le_mul_of_nonneg_right v1 (by omega)
    omega
/-- the mediant is between -/
theorem btw_med {a b c d : Int} (h : a * d < c * b) : Btw a b c d (a + c) (b + d) := by
  refine ⟨?_, ?_⟩
  · have e1 : a * (b + d) = a * b + a * d := by grind
    have e2 : (a + c) * b = a * b + c * b := by grind
    omega
  · have e1 : (a + c) * d = a * d + c * d := by grind
    have e2 : c * (b + d) = c * b + c * d := by grind
    omega
theorem smp_le {a b c d p q : Int} (hb : 0 < b) (hd : 0 ≤ d) (h : a * d < c * b) (s : Smp a b c d p q) : p ≤ a + c ∧ q ≤ b + d :=
  let z := s.2.2.2 (a + c) (b + d) (by omega) (btw_med h)
  ⟨z.2, z.1⟩
/-! folding back -/
def fold : List Int → Int → Int × Int
  | [], w => (w + 1, 1)
  | m :: ms, w => (m * (fold ms w).1 + (fold ms w).2, (fold ms w).1)
theorem fold_can : ∀ (ms : List Int) (w : Int), Int.gcd (fold ms w).1 (fold ms w).2 = 1
  | [], w => by simp [fold]
  | m :: ms, w => by
    have ih := fold_can ms w
    show Int.gcd (m * (fold ms w).1 + (fold ms w).2) (fold ms w).1 = 1
    rw [Int.gcd_comm, Int.add_comm, Int.mul_comm, Int.gcd_add_mul_left_right]
    exact ih
end K01
end
section
set_option Elab.async false
set_option linter.all false
set_option maxRecDepth 100000
set_option maxHeartbeats 4000000
open PySem PySem.Spec PyProof.Rows L2 LamX FL
namespace K01
abbrev top (n : Nat) : Stmt := (PySem.Challenge.pw_whicheverworld_k01_words_of_ratios_and_s.main.body).getD n (.Pass ⟨0, 0, 0, 0⟩)
abbrev s_is_integer : Stmt := top 10
abbrev s_lowest : Stmt := top 16
abbrev s_is_short : Stmt := top 17
abbrev s_read_whole : Stmt := top 18
abbrev s_is_ratio : Stmt := top 19
abbrev s_plus : Stmt := top 20
abbrev s_minus : Stmt := top 21
abbrev s_negated : Stmt := top 22
abbrev s_over : Stmt := top 23
abbrev s_less : Stmt := top 24
abbrev s_simplest_above : Stmt := top 26
abbrev s_simplest : Stmt := top 25
abbrev s_ratio_text : Stmt := top 27
abbrev s_read_ratio : Stmt := top 28
abbrev s_l_pen : Stmt := top 30
abbrev s_l_draw : Stmt := top 31
abbrev s_l_pick : Stmt := top 32
abbrev s_l_heard : Stmt := top 33
abbrev s_l_shared : Stmt := top 34
abbrev s_l_lowest : Stmt := top 35
abbrev s_l_whole : Stmt := top 36
abbrev s_l_read : Stmt := top 37
abbrev s_l_bent : Stmt := top 38
abbrev s_l_simplest : Stmt := top 39
abbrev s_law : Stmt := top 40
def k_FIGURES : D := (.str "0123456789")
def k_MOST_FIGURES : D := (.int 2000)
def k_ONE : D := (.tup [(.int 1), (.int 1)])
def k_ZERO : D := (.tup [(.int 0), (.int 1)])
def xaL : List (Str × List Str) := [("BadNumber", ["part"]), ("BadValue", ["part"]), ("Misfit", ["part"]), ("Nothing", ["part"]), ("TooMany", ["what", "most"])]
def xaX (c : Str) : List Str := (xaL.lookup c).getD []
def subL : List ((Str × Str) × Bool) := [(("BadNumber", "TooMany"), false), (("BadNumber", "BadNumber"), true), (("BadNumber", "BadValue"), false), (("BadNumber", "Misfit"), false), (("BadNumber", "Nothing"), false), (("BadValue", "TooMany"), false), (("BadValue", "BadNumber"), false), (("BadValue", "BadValue"), true), (("BadValue", "Misfit"), false), (("BadValue", "Nothing"), false), (("Misfit", "TooMany"), false), (("Misfit", "BadNumber"), false), (("Misfit", "BadValue"), false), (("Misfit", "Misfit"), true), (("Misfit", "Nothing"), false), (("Nothing", "TooMany"), false), (("Nothing", "BadNumber"), false), (("Nothing", "BadValue"), false), (("Nothing", "Misfit"), false), (("Nothing", "Nothing"), true), (("TooMany", "TooMany"), true), (("TooMany", "BadNumber"), false), (("TooMany", "BadValue"), false), (("TooMany", "Misfit"), false), (("TooMany", "Nothing"), false)]
def subX (a b : Str) : Option Bool := subL.lookup (a, b)
def isL : List (Str × Bool) := [("BadNumber", true), ("BadValue", true), ("Misfit", true), ("Nothing", true), ("TooMany", true)]
def isX (c : Str) : Option Bool := isL.lookup c

/-- what the hearing makes of an exception -/
def partD (k w : Str) (c : Str) (fs : List D) (st : Sto) : Res D := (kXa xaX w (.exc c fs) st).bind fun d st1 => .ok (.tup [.str k, d]) st1
def hearX (c : Str) (fs : List D) (st : Sto) : Res D :=
  if c = "TooMany" then (kXa xaX "what" (.exc c fs) st).bind fun d st1 => (kXa xaX "most" (.exc c fs) st1).bind fun e st2 => .ok (.tup [.str "many", d, e]) st2
  else if c = "BadNumber" then partD "number" "part" c fs st else if c = "BadValue" then partD "value" "part" c fs st else if c = "Misfit" then partD "misfit" "part" c fs st else if c = "Nothing" then partD "nothing" "part" c fs st else .bad
def hearR : Res D → Res D
  | .ok d st => .ok (.lst [d]) st
  | .ex c fs st => hearX c fs st
  | .bad => .bad
def hF (ask : Sto → Res D) (st : Sto) : Res D := hearR (ask st)
def b_is_integer : SF := sRet (eAndB (eBuilt (opIsi subX) (aCons (eVar 0) (aCons (eC (.ty "int")) (aNil)))) (eNotB (eBuilt (opIsi subX) (aCons (eVar 0) (aCons (eC (.ty "bool")) (aNil))))))
def f_is_integer : FF := bodyF 1 b_is_integer
def b_lowest : SF := sSeq (sAsg (.nm 2) (eBuilt opGcd (aCons (eVar 0) (aCons (eVar 1) (aNil)))))
  (sSeq (sIf (tVal (e2 opLt (eVar 1) (eC (.int 0)))) (sRet (eTup (aCons (e2 opDiv (e1 opNeg (eVar 0)) (eVar 2)) (aCons (e2 opDiv (e1 opNeg (eVar 1)) (eVar 2)) (aNil))))) (sNil))
  (sRet (eTup (aCons (e2 opDiv (eVar 0) (eVar 2)) (aCons (e2 opDiv (eVar 1) (eVar 2)) (aNil))))))
def b_lowest_0 : SF := sAsg (.nm 2) (eBuilt opGcd (aCons (eVar 0) (aCons (eVar 1) (aNil))))
def b_lowest_1 : SF := sIf (tVal (e2 opLt (eVar 1) (eC (.int 0)))) (sRet (eTup (aCons (e2 opDiv (e1 opNeg (eVar 0)) (eVar 2)) (aCons (e2 opDiv (e1 opNeg (eVar 1)) (eVar 2)) (aNil))))) (sNil)
def b_lowest_2 : SF := sRet (eTup (aCons (e2 opDiv (eVar 0) (eVar 2)) (aCons (e2 opDiv (eVar 1) (eVar 2)) (aNil))))
theorem b_lowest_eq : b_lowest = (sSeq b_lowest_0 (sSeq b_lowest_1 b_lowest_2)) := rfl
def f_lowest : FF := bodyF 3 b_lowest
def b_is_short : SF := sRet (e2 opLt (eBuilt (opAbs) (aCons (eVar 0) (aNil))) (eBuilt (opIntS) (aCons (e2 opAdd (eC (.str "1")) (e2 opMul (eC (.str "0")) (eC k_MOST_FIGURES))) (aNil))))
def f_is_short : FF := bodyF 1 b_is_short
def b_read_whole : SF := sSeq (sAsg (.nm 1) (eIf (tVal (e2 opEq (eSl (eVar 0) pNone (pSome (eC (.int 1)))) (eC (.str "-")))) (eSl (eVar 0) (pSome (eC (.int 1))) pNone) (eVar 0)))
  (sSeq (sIf (tOrF (tNotF (tBl (eChain opLe opLe (eC (.int 1)) (eBuilt (opLen) (aCons (eVar 1) (aNil))) (eC k_MOST_FIGURES)))) (tNotF (tVal (eBuilt (opAll) (aCons (eComp [2] (.nm 2) (iAny (eVar 1)) (tTrue) (e2 opIn (eVar 2) (eC k_FIGURES))) (aNil)))))) (sRet (eC .non)) (sNil))
  (sSeq (sIf (tAndF (tVal (e2 opEq (e2 opIx (eVar 1) (eC (.int 0))) (eC (.str "0")))) (tVal (e2 opNe (eVar 0) (eC (.str "0"))))) (sRet (eC .non)) (sNil))
  (sRet (eBuilt (opIntS) (aCons (eVar 0) (aNil))))))
def b_read_whole_0 : SF := sAsg (.nm 1) (eIf (tVal (e2 opEq (eSl (eVar 0) pNone (pSome (eC (.int 1)))) (eC (.str "-")))) (eSl (eVar 0) (pSome (eC (.int 1))) pNone) (eVar 0))
def b_read_whole_1 : SF := sIf (tOrF (tNotF (tBl (eChain opLe opLe (eC (.int 1)) (eBuilt (opLen) (aCons (eVar 1) (aNil))) (eC k_MOST_FIGURES)))) (tNotF (tVal (eBuilt (opAll) (aCons (eComp [2] (.nm 2) (iAny (eVar 1)) (tTrue) (e2 opIn (eVar 2) (eC k_FIGURES))) (aNil)))))) (sRet (eC .non)) (sNil)
def b_read_whole_2 : SF := sIf (tAndF (tVal (e2 opEq (e2 opIx (eVar 1) (eC (.int 0))) (eC (.str "0")))) (tVal (e2 opNe (eVar 0) (eC (.str "0"))))) (sRet (eC .non)) (sNil)
def b_read_whole_3 : SF := sRet (eBuilt (opIntS) (aCons (eVar 0) (aNil)))
theorem b_read_whole_eq : b_read_whole = (sSeq b_read_whole_0 (sSeq b_read_whole_1 (sSeq b_read_whole_2 b_read_whole_3))) := rfl
def f_read_whole : FF := bodyF 3 b_read_whole
def b_is_ratio : SF := sSeq (sIf (tOrF (tNotF (tVal (eBuilt (opIsi subX) (aCons (eVar 0) (aCons (eC (.ty "tuple")) (aNil)))))) (tOrF (tVal (e2 opNe (eBuilt (opLen) (aCons (eVar 0) (aNil))) (eC (.int 2)))) (tOrF (tNotF (tVal (eCall 1 f_is_integer (aCons (e2 opIx (eVar 0) (eC (.int 0))) (aNil))))) (tNotF (tVal (eCall 1 f_is_integer (aCons (e2 opIx (eVar 0) (eC (.int 1))) (aNil)))))))) (sRet (eC (.bl false))) (sNil))
  (sRet (eAndB (e2 opGe (e2 opIx (eVar 0) (eC (.int 1))) (eC (.int 1))) (e2 opEq (eBuilt opGcd (aCons (e2 opIx (eVar 0) (eC (.int 0))) (aCons (e2 opIx (eVar 0) (eC (.int 1))) (aNil)))) (eC (.int 1)))))
def b_is_ratio_0 : SF := sIf (tOrF (tNotF (tVal (eBuilt (opIsi subX) (aCons (eVar 0) (aCons (eC (.ty "tuple")) (aNil)))))) (tOrF (tVal (e2 opNe (eBuilt (opLen) (aCons (eVar 0) (aNil))) (eC (.int 2)))) (tOrF (tNotF (tVal (eCall 1 f_is_integer (aCons (e2 opIx (eVar 0) (eC (.int 0))) (aNil))))) (tNotF (tVal (eCall 1 f_is_integer (aCons (e2 opIx (eVar 0) (eC (.int 1))) (aNil)))))))) (sRet (eC (.bl false))) (sNil)
def b_is_ratio_1 : SF := sRet (eAndB (e2 opGe (e2 opIx (eVar 0) (eC (.int 1))) (eC (.int 1))) (e2 opEq (eBuilt opGcd (aCons (e2 opIx (eVar 0) (eC (.int 0))) (aCons (e2 opIx (eVar 0) (eC (.int 1))) (aNil)))) (eC (.int 1))))
theorem b_is_ratio_eq : b_is_ratio = (sSeq b_is_ratio_0 b_is_ratio_1) := rfl
def f_is_ratio : FF := bodyF 1 b_is_ratio
def b_plus : SF := sRet (eCall 2 f_lowest (aCons (e2 opAdd (e2 opMul (e2 opIx (eVar 0) (eC (.int 0))) (e2 opIx (eVar 1) (eC (.int 1)))) (e2 opMul (e2 opIx (eVar 1) (eC (.int 0))) (e2 opIx (eVar 0) (eC (.int 1))))) (aCons (e2 opMul (e2 opIx (eVar 0) (eC (.int 1))) (e2 opIx (eVar 1) (eC (.int 1)))) (aNil))))
def f_plus : FF := bodyF 2 b_plus
def b_minus : SF := sRet (eCall 2 f_lowest (aCons (e2 opSub (e2 opMul (e2 opIx (eVar 0) (eC (.int 0))) (e2 opIx (eVar 1) (eC (.int 1)))) (e2 opMul (e2 opIx (eVar 1) (eC (.int 0))) (e2 opIx (eVar 0) (eC (.int 1))))) (aCons (e2 opMul (e2 opIx (eVar 0) (eC (.int 1))) (e2 opIx (eVar 1) (eC (.int 1)))) (aNil))))
def f_minus : FF := bodyF 2 b_minus
def b_negated : SF := sRet (eTup (aCons (e1 opNeg (e2 opIx (eVar 0) (eC (.int 0)))) (aCons (e2 opIx (eVar 0) (eC (.int 1))) (aNil))))
def f_negated : FF := bodyF 1 b_negated
def b_over : SF := sSeq (sIf (tVal (e2 opEq (e2 opIx (eVar 1) (eC (.int 0))) (eC (.int 0)))) (sRaise "BadNumber" 1 (aCons (eC (.str "other")) (aNil))) (sNil))
  (sRet (eCall 2 f_lowest (aCons (e2 opMul (e2 opIx (eVar 0) (eC (.int 0))) (e2 opIx (eVar 1) (eC (.int 1)))) (aCons (e2 opMul (e2 opIx (eVar 0) (eC (.int 1))) (e2 opIx (eVar 1) (eC (.int 0)))) (aNil)))))
def b_over_0 : SF := sIf (tVal (e2 opEq (e2 opIx (eVar 1) (eC (.int 0))) (eC (.int 0)))) (sRaise "BadNumber" 1 (aCons (eC (.str "other")) (aNil))) (sNil)
def b_over_1 : SF := sRet (eCall 2 f_lowest (aCons (e2 opMul (e2 opIx (eVar 0) (eC (.int 0))) (e2 opIx (eVar 1) (eC (.int 1)))) (aCons (e2 opMul (e2 opIx (eVar 0) (eC (.int 1))) (e2 opIx (eVar 1) (eC (.int 0)))) (aNil))))
theorem b_over_eq : b_over = (sSeq b_over_0 b_over_1) := rfl
def f_over : FF := bodyF 2 b_over
def b_less : SF := sRet (e2 opLt (e2 opMul (e2 opIx (eVar 0) (eC (.int 0))) (e2 opIx (eVar 1) (eC (.int 1)))) (e2 opMul (e2 opIx (eVar 1) (eC (.int 0))) (e2 opIx (eVar 0) (eC (.int 1)))))
def f_less : FF := bodyF 2 b_less
def b_simplest_above : SF := sSeq (sPar [2, 3] (aCons (eCel (aNil)) (aCons (e2 opDiv (e2 opIx (eVar 0) (eC (.int 0))) (e2 opIx (eVar 0) (eC (.int 1)))) (aNil))))
  (sSeq (sWhile (fun _ _ => 10000) (tAndF (tVal (e2 opNotN (eVar 1) (eC .non))) (tNotF (tVal (eCall 2 f_less (aCons (eTup (aCons (e2 opAdd (eVar 3) (eC (.int 1))) (aCons (eC (.int 1)) (aNil)))) (aCons (eVar 1) (aNil))))))) (sSeq (sDrop (eCellM ocAppend (eVar 2) (aCons (eVar 3) (aNil))))
  (sSeq (sAsg (.nm 4) (e2 opSub (e2 opIx (eVar 0) (eC (.int 0))) (e2 opMul (eVar 3) (e2 opIx (eVar 0) (eC (.int 1))))))
  (sSeq (sAsg (.nm 5) (eIf (tVal (e2 opEq (eVar 4) (eC (.int 0)))) (eC .non) (eCall 2 f_lowest (aCons (e2 opIx (eVar 0) (eC (.int 1))) (aCons (eVar 4) (aNil))))))
  (sSeq (sPar [0, 1] (aCons (eCall 2 f_over (aCons (eC k_ONE) (aCons (eCall 2 f_minus (aCons (eVar 1) (aCons (eTup (aCons (eVar 3) (aCons (eC (.int 1)) (aNil)))) (aNil)))) (aNil)))) (aCons (eVar 5) (aNil))))
  (sAsg (.nm 3) (e2 opDiv (e2 opIx (eVar 0) (eC (.int 0))) (e2 opIx (eVar 0) (eC (.int 1))))))))))
  (sSeq (sAsg (.nm 6) (eTup (aCons (e2 opAdd (eVar 3) (eC (.int 1))) (aCons (eC (.int 1)) (aNil)))))
  (sSeq (sFor (.nm 7) (iAny (eRev (eVar 2))) (sAsg (.nm 6) (eCall 2 f_plus (aCons (eTup (aCons (eVar 7) (aCons (eC (.int 1)) (aNil)))) (aCons (eCall 2 f_over (aCons (eC k_ONE) (aCons (eVar 6) (aNil)))) (aNil))))))
  (sRet (eVar 6)))))
def b_simplest_above_0 : SF := sPar [2, 3] (aCons (eCel (aNil)) (aCons (e2 opDiv (e2 opIx (eVar 0) (eC (.int 0))) (e2 opIx (eVar 0) (eC (.int 1)))) (aNil)))
def b_simplest_above_1b_0 : SF := sDrop (eCellM ocAppend (eVar 2) (aCons (eVar 3) (aNil)))
def b_simplest_above_1b_1 : SF := sAsg (.nm 4) (e2 opSub (e2 opIx (eVar 0) (eC (.int 0))) (e2 opMul (eVar 3) (e2 opIx (eVar 0) (eC (.int 1)))))
def b_simplest_above_1b_2 : SF := sAsg (.nm 5) (eIf (tVal (e2 opEq (eVar 4) (eC (.int 0)))) (eC .non) (eCall 2 f_lowest (aCons (e2 opIx (eVar 0) (eC (.int 1))) (aCons (eVar 4) (aNil)))))
def b_simplest_above_1b_3 : SF := sPar [0, 1] (aCons (eCall 2 f_over (aCons (eC k_ONE) (aCons (eCall 2 f_minus (aCons (eVar 1) (aCons (eTup (aCons (eVar 3) (aCons (eC (.int 1)) (aNil)))) (aNil)))) (aNil)))) (aCons (eVar 5) (aNil)))
def b_simplest_above_1b_4 : SF := sAsg (.nm 3) (e2 opDiv (e2 opIx (eVar 0) (eC (.int 0))) (e2 opIx (eVar 0) (eC (.int 1))))
def b_simplest_above_1b : SF := (sSeq b_simplest_above_1b_0 (sSeq b_simplest_above_1b_1 (sSeq b_simplest_above_1b_2 (sSeq b_simplest_above_1b_3 b_simplest_above_1b_4))))
def b_simplest_above_1 : SF := sWhile (fun _ _ => 10000) (tAndF (tVal (e2 opNotN (eVar 1) (eC .non))) (tNotF (tVal (eCall 2 f_less (aCons (eTup (aCons (e2 opAdd (eVar 3) (eC (.int 1))) (aCons (eC (.int 1)) (aNil)))) (aCons (eVar 1) (aNil))))))) b_simplest_above_1b
def b_simplest_above_2 : SF := sAsg (.nm 6) (eTup (aCons (e2 opAdd (eVar 3) (eC (.int 1))) (aCons (eC (.int 1)) (aNil))))
def b_simplest_above_3b : SF := sAsg (.nm 6) (eCall 2 f_plus (aCons (eTup (aCons (eVar 7) (aCons (eC (.int 1)) (aNil)))) (aCons (eCall 2 f_over (aCons (eC k_ONE) (aCons (eVar 6) (aNil)))) (aNil))))
def b_simplest_above_3 : SF := sFor (.nm 7) (iAny (eRev (eVar 2))) b_simplest_above_3b
def b_simplest_above_4 : SF := sRet (eVar 6)
theorem b_simplest_above_eq : b_simplest_above = (sSeq b_simplest_above_0 (sSeq b_simplest_above_1 (sSeq b_simplest_above_2 (sSeq b_simplest_above_3 b_simplest_above_4)))) := rfl
def f_simplest_above : FF := bodyF 8 b_simplest_above
def b_simplest : SF := sSeq (sIf (tNotF (tVal (eCall 2 f_less (aCons (eVar 0) (aCons (eVar 1) (aNil)))))) (sRaise "Misfit" 1 (aCons (eC (.str "high")) (aNil))) (sNil))
  (sSeq (sIf (tAndF (tVal (eCall 2 f_less (aCons (eVar 0) (aCons (eC k_ZERO) (aNil))))) (tVal (eCall 2 f_less (aCons (eC k_ZERO) (aCons (eVar 1) (aNil)))))) (sRet (eC k_ZERO)) (sNil))
  (sSeq (sIf (tNotF (tVal (eCall 2 f_less (aCons (eVar 0) (aCons (eC k_ZERO) (aNil)))))) (sRet (eCall 2 f_simplest_above (aCons (eVar 0) (aCons (eVar 1) (aNil))))) (sNil))
  (sRet (eCall 1 f_negated (aCons (eCall 2 f_simplest_above (aCons (eCall 1 f_negated (aCons (eVar 1) (aNil))) (aCons (eCall 1 f_negated (aCons (eVar 0) (aNil))) (aNil)))) (aNil))))))
def b_simplest_0 : SF := sIf (tNotF (tVal (eCall 2 f_less (aCons (eVar 0) (aCons (eVar 1) (aNil)))))) (sRaise "Misfit" 1 (aCons (eC (.str "high")) (aNil))) (sNil)
def b_simplest_1 : SF := sIf (tAndF (tVal (eCall 2 f_less (aCons (eVar 0) (aCons (eC k_ZERO) (aNil))))) (tVal (eCall 2 f_less (aCons (eC k_ZERO) (aCons (eVar 1) (aNil)))))) (sRet (eC k_ZERO)) (sNil)
def b_simplest_2 : SF := sIf (tNotF (tVal (eCall 2 f_less (aCons (eVar 0) (aCons (eC k_ZERO) (aNil)))))) (sRet (eCall 2 f_simplest_above (aCons (eVar 0) (aCons (eVar 1) (aNil))))) (sNil)
def b_simplest_3 : SF := sRet (eCall 1 f_negated (aCons (eCall 2 f_simplest_above (aCons (eCall 1 f_negated (aCons (eVar 1) (aNil))) (aCons (eCall 1 f_negated (aCons (eVar 0) (aNil))) (aNil)))) (aNil)))
theorem b_simplest_eq : b_simplest = (sSeq b_simplest_0 (sSeq b_simplest_1 (sSeq b_simplest_2 b_simplest_3))) := rfl
def f_simplest : FF := bodyF 2 b_simplest
def b_ratio_text : SF := sSeq (sIf (tOrF (tNotF (tVal (eCall 1 f_is_short (aCons (e2 opIx (eVar 0) (eC (.int 0))) (aNil))))) (tNotF (tVal (eCall 1 f_is_short (aCons (e2 opIx (eVar 0) (eC (.int 1))) (aNil)))))) (sRaise "TooMany" 2 (aCons (eC (.str "figures")) (aCons (eC k_MOST_FIGURES) (aNil)))) (sNil))
  (sRet (eIf (tVal (e2 opEq (e2 opIx (eVar 0) (eC (.int 1))) (eC (.int 1)))) (eBuilt (opStrW) (aCons (e2 opIx (eVar 0) (eC (.int 0))) (aNil))) (e2 opAdd (e2 opAdd (eBuilt (opStrW) (aCons (e2 opIx (eVar 0) (eC (.int 0))) (aNil))) (eC (.str "/"))) (eBuilt (opStrW) (aCons (e2 opIx (eVar 0) (eC (.int 1))) (aNil))))))
def b_ratio_text_0 : SF := sIf (tOrF (tNotF (tVal (eCall 1 f_is_short (aCons (e2 opIx (eVar 0) (eC (.int 0))) (aNil))))) (tNotF (tVal (eCall 1 f_is_short (aCons (e2 opIx (eVar 0) (eC (.int 1))) (aNil)))))) (sRaise "TooMany" 2 (aCons (eC (.str "figures")) (aCons (eC k_MOST_FIGURES) (aNil)))) (sNil)
def b_ratio_text_1 : SF := sRet (eIf (tVal (e2 opEq (e2 opIx (eVar 0) (eC (.int 1))) (eC (.int 1)))) (eBuilt (opStrW) (aCons (e2 opIx (eVar 0) (eC (.int 0))) (aNil))) (e2 opAdd (e2 opAdd (eBuilt (opStrW) (aCons (e2 opIx (eVar 0) (eC (.int 0))) (aNil))) (eC (.str "/"))) (eBuilt (opStrW) (aCons (e2 opIx (eVar 0) (eC (.int 1))) (aNil)))))
theorem b_ratio_text_eq : b_ratio_text = (sSeq b_ratio_text_0 b_ratio_text_1) := rfl
def f_ratio_text : FF := bodyF 1 b_ratio_text
def b_read_ratio : SF := sSeq (sIf (tNotF (tVal (eBuilt (opIsi subX) (aCons (eVar 0) (aCons (eC (.ty "str")) (aNil)))))) (sRet (eC .non)) (sNil))
  (sSeq (sAsg (.nm 1) (eSplit (eVar 0) (eC (.str "/"))))
  (sSeq (sAsg (.nm 2) (eComp [3] (.nm 3) (iAny (eVar 1)) (tTrue) (eCall 1 f_read_whole (aCons (eVar 3) (aNil)))))
  (sSeq (sIf (tOrF (tVal (e2 opGt (eBuilt (opLen) (aCons (eVar 1) (aNil))) (eC (.int 2)))) (tVal (e2 opIn (eC .non) (eVar 2)))) (sRet (eC .non)) (sNil))
  (sSeq (sIf (tVal (e2 opEq (eBuilt (opLen) (aCons (eVar 1) (aNil))) (eC (.int 1)))) (sRet (eTup (aCons (e2 opIx (eVar 2) (eC (.int 0))) (aCons (eC (.int 1)) (aNil))))) (sNil))
  (sSeq (sIf (tOrF (tVal (e2 opLt (e2 opIx (eVar 2) (eC (.int 1))) (eC (.int 2)))) (tVal (e2 opNe (eBuilt opGcd (aCons (e2 opIx (eVar 2) (eC (.int 0))) (aCons (e2 opIx (eVar 2) (eC (.int 1))) (aNil)))) (eC (.int 1))))) (sRet (eC .non)) (sNil))
  (sRet (eTup (aCons (e2 opIx (eVar 2) (eC (.int 0))) (aCons (e2 opIx (eVar 2) (eC (.int 1))) (aNil))))))))))
def b_read_ratio_0 : SF := sIf (tNotF (tVal (eBuilt (opIsi subX) (aCons (eVar 0) (aCons (eC (.ty "str")) (aNil)))))) (sRet (eC .non)) (sNil)
def b_read_ratio_1 : SF := sAsg (.nm 1) (eSplit (eVar 0) (eC (.str "/")))
def b_read_ratio_2 : SF := sAsg (.nm 2) (eComp [3] (.nm 3) (iAny (eVar 1)) (tTrue) (eCall 1 f_read_whole (aCons (eVar 3) (aNil))))
def b_read_ratio_3 : SF := sIf (tOrF (tVal (e2 opGt (eBuilt (opLen) (aCons (eVar 1) (aNil))) (eC (.int 2)))) (tVal (e2 opIn (eC .non) (eVar 2)))) (sRet (eC .non)) (sNil)
def b_read_ratio_4 : SF := sIf (tVal (e2 opEq (eBuilt (opLen) (aCons (eVar 1) (aNil))) (eC (.int 1)))) (sRet (eTup (aCons (e2 opIx (eVar 2) (eC (.int 0))) (aCons (eC (.int 1)) (aNil))))) (sNil)
def b_read_ratio_5 : SF := sIf (tOrF (tVal (e2 opLt (e2 opIx (eVar 2) (eC (.int 1))) (eC (.int 2)))) (tVal (e2 opNe (eBuilt opGcd (aCons (e2 opIx (eVar 2) (eC (.int 0))) (aCons (e2 opIx (eVar 2) (eC (.int 1))) (aNil)))) (eC (.int 1))))) (sRet (eC .non)) (sNil)
def b_read_ratio_6 : SF := sRet (eTup (aCons (e2 opIx (eVar 2) (eC (.int 0))) (aCons (e2 opIx (eVar 2) (eC (.int 1))) (aNil))))
theorem b_read_ratio_eq : b_read_ratio = (sSeq b_read_ratio_0 (sSeq b_read_ratio_1 (sSeq b_read_ratio_2 (sSeq b_read_ratio_3 (sSeq b_read_ratio_4 (sSeq b_read_ratio_5 b_read_ratio_6)))))) := rfl
def f_read_ratio : FF := bodyF 4 b_read_ratio
def b_l_pen : SF := sRet (eCel (aCons (eComp [1] (.nm 1) (iAny (eSl (eVar 0) pNone (pSome (eC (.int 63))))) (tTrue) (eBuilt (opIntS) (aCons (eVar 1) (aNil)))) (aCons (eC (.int 0)) (aCons (eC (.int 0)) (aNil)))))
def f_l_pen : FF := bodyF 2 b_l_pen
def b_l_draw : SF := sSeq (sIf (tVal (e2 opGt (e2 opIx (eVar 0) (eC (.int 2))) (eC (.int 0)))) (sSeq (sAsg (.nm 2) (eBuilt (opIntS) (aCons (e2 opIx (eVar 0) (eC (.int 2))) (aNil))))
  (sSeq (sSet (eVar 0) (eC (.int 2)) (e2 opDiv (eVar 2) (eVar 1)))
  (sRet (e2 opMod (eBuilt (opIntS) (aCons (eVar 2) (aNil))) (eVar 1))))) (sNil))
  (sSeq (sAsg (.nm 3) (e2 opIx (eVar 0) (eC (.int 1))))
  (sSeq (sSet (eVar 0) (eC (.int 1)) (e2 opAdd (eVar 3) (eC (.int 1))))
  (sSeq (sAsg (.nm 4) (e2 opAdd (e2 opMul (eC (.int 91199)) (eVar 3)) (eC (.int 30013))))
  (sSeq (sIf (tVal (e2 opNe (e2 opIx (eVar 0) (eC (.int 0))) (eLst (aNil)))) (sAsg (.nm 4) (e2 opIx (e2 opIx (eVar 0) (eC (.int 0))) (e2 opMod (eBuilt (opIntS) (aCons (eVar 3) (aNil))) (eBuilt (opLen) (aCons (e2 opIx (eVar 0) (eC (.int 0))) (aNil)))))) (sNil))
  (sSeq (sIf (tAndF (tVal (e2 opLt (eVar 3) (eBuilt (opLen) (aCons (e2 opIx (eVar 0) (eC (.int 0))) (aNil))))) (tVal (e2 opGe (eBuilt (opAbs) (aCons (eVar 4) (aNil))) (e2 opPow (eC (.int 10)) (eC (.int 18)))))) (sSeq (sAsg (.nm 2) (e2 opAdd (e2 opMul (eC (.int 2)) (e2 opSub (eBuilt (opAbs) (aCons (eVar 4) (aNil))) (e2 opPow (eC (.int 10)) (eC (.int 18))))) (eBuilt (opIntS) (aCons (e2 opLt (eVar 4) (eC (.int 0))) (aNil)))))
  (sSeq (sSet (eVar 0) (eC (.int 2)) (e2 opDiv (eBuilt (opIntS) (aCons (eVar 2) (aNil))) (eVar 1)))
  (sRet (e2 opMod (eBuilt (opIntS) (aCons (eVar 2) (aNil))) (eVar 1))))) (sNil))
  (sSeq (sAsg (.nm 5) (e2 opMod (eBuilt (opIntS) (aCons (e2 opPow (e2 opAdd (e2 opAdd (e2 opMod (eBuilt (opIntS) (aCons (eVar 4) (aNil))) (eC (.int 2147483549))) (e2 opMul (eC (.int 91199)) (eVar 3))) (eC (.int 30013))) (eC (.int 5))) (aNil))) (eC (.int 2147483629))))
  (sSeq (sAsg (.nm 5) (e2 opMod (eBuilt (opIntS) (aCons (e2 opPow (e2 opAdd (e2 opAdd (e2 opMul (eVar 5) (e2 opAdd (e2 opMul (eC (.int 2)) (eVar 3)) (eC (.int 2621)))) (e2 opMul (e2 opMul (eC (.int 58111)) (eVar 3)) (eVar 3))) (eC (.int 91199))) (eC (.int 3))) (aNil))) (eC (.int 2147483587))))
  (sRet (e2 opMod (eBuilt (opIntS) (aCons (e2 opDiv (eVar 5) (eC (.int 64))) (aNil))) (eVar 1))))))))))
def b_l_draw_0 : SF := sIf (tVal (e2 opGt (e2 opIx (eVar 0) (eC (.int 2))) (eC (.int 0)))) (sSeq (sAsg (.nm 2) (eBuilt (opIntS) (aCons (e2 opIx (eVar 0) (eC (.int 2))) (aNil))))
  (sSeq (sSet (eVar 0) (eC (.int 2)) (e2 opDiv (eVar 2) (eVar 1)))
  (sRet (e2 opMod (eBuilt (opIntS) (aCons (eVar 2) (aNil))) (eVar 1))))) (sNil)
def b_l_draw_1 : SF := sAsg (.nm 3) (e2 opIx (eVar 0) (eC (.int 1)))
def b_l_draw_2 : SF := sSet (eVar 0) (eC (.int 1)) (e2 opAdd (eVar 3) (eC (.int 1)))
def b_l_draw_3 : SF := sAsg (.nm 4) (e2 opAdd (e2 opMul (eC (.int 91199)) (eVar 3)) (eC (.int 30013)))
def b_l_draw_4 : SF := sIf (tVal (e2 opNe (e2 opIx (eVar 0) (eC (.int 0))) (eLst (aNil)))) (sAsg (.nm 4) (e2 opIx (e2 opIx (eVar 0) (eC (.int 0))) (e2 opMod (eBuilt (opIntS) (aCons (eVar 3) (aNil))) (eBuilt (opLen) (aCons (e2 opIx (eVar 0) (eC (.int 0))) (aNil)))))) (sNil)
def b_l_draw_5 : SF := sIf (tAndF (tVal (e2 opLt (eVar 3) (eBuilt (opLen) (aCons (e2 opIx (eVar 0) (eC (.int 0))) (aNil))))) (tVal (e2 opGe (eBuilt (opAbs) (aCons (eVar 4) (aNil))) (e2 opPow (eC (.int 10)) (eC (.int 18)))))) (sSeq (sAsg (.nm 2) (e2 opAdd (e2 opMul (eC (.int 2)) (e2 opSub (eBuilt (opAbs) (aCons (eVar 4) (aNil))) (e2 opPow (eC (.int 10)) (eC (.int 18))))) (eBuilt (opIntS) (aCons (e2 opLt (eVar 4) (eC (.int 0))) (aNil)))))
  (sSeq (sSet (eVar 0) (eC (.int 2)) (e2 opDiv (eBuilt (opIntS) (aCons (eVar 2) (aNil))) (eVar 1)))
  (sRet (e2 opMod (eBuilt (opIntS) (aCons (eVar 2) (aNil))) (eVar 1))))) (sNil)
def b_l_draw_6 : SF := sAsg (.nm 5) (e2 opMod (eBuilt (opIntS) (aCons (e2 opPow (e2 opAdd (e2 opAdd (e2 opMod (eBuilt (opIntS) (aCons (eVar 4) (aNil))) (eC (.int 2147483549))) (e2 opMul (eC (.int 91199)) (eVar 3))) (eC (.int 30013))) (eC (.int 5))) (aNil))) (eC (.int 2147483629)))
def b_l_draw_7 : SF := sAsg (.nm 5) (e2 opMod (eBuilt (opIntS) (aCons (e2 opPow (e2 opAdd (e2 opAdd (e2 opMul (eVar 5) (e2 opAdd (e2 opMul (eC (.int 2)) (eVar 3)) (eC (.int 2621)))) (e2 opMul (e2 opMul (eC (.int 58111)) (eVar 3)) (eVar 3))) (eC (.int 91199))) (eC (.int 3))) (aNil))) (eC (.int 2147483587)))
def b_l_draw_8 : SF := sRet (e2 opMod (eBuilt (opIntS) (aCons (e2 opDiv (eVar 5) (eC (.int 64))) (aNil))) (eVar 1))
theorem b_l_draw_eq : b_l_draw = (sSeq b_l_draw_0 (sSeq b_l_draw_1 (sSeq b_l_draw_2 (sSeq b_l_draw_3 (sSeq b_l_draw_4 (sSeq b_l_draw_5 (sSeq b_l_draw_6 (sSeq b_l_draw_7 b_l_draw_8)))))))) := rfl
def f_l_draw : FF := bodyF 6 b_l_draw
def b_l_pick : SF := sRet (e2 opIx (eVar 1) (eCall 2 f_l_draw (aCons (eVar 0) (aCons (eBuilt (opLen) (aCons (eVar 1) (aNil))) (aNil)))))
def f_l_pick : FF := bodyF 2 b_l_pick
def b_l_heard (f c : Addr) (q : Str) (σ : List (Option V)) (fE : EF) : SF := sSeq (sAsg (.tp [.nm 1, .nm 2]) (eTup (aCons (eC .non) (aCons (eC .non) (aNil)))))
  (sSeq (sKeep isX 3 2 (sAsg (.nm 1) (eAsk 0 f c q σ fE)))
  (sSeq (sIf (tVal (e2 opIsN (eVar 2) (eC .non))) (sRet (eLst (aCons (eVar 1) (aNil)))) (sNil))
  (sSeq (sIf (tVal (eBuilt (opIsi subX) (aCons (eVar 2) (aCons (eC (.cls "TooMany")) (aNil))))) (sRet (eTup (aCons (eC (.str "many")) (aCons (eXa xaX "what" (eVar 2)) (aCons (eXa xaX "most" (eVar 2)) (aNil)))))) (sNil))
  (sSeq (sAsg (.nm 4) (eLst (aCons (eTup (aCons (eC (.str "number")) (aCons (eBuilt (opIsi subX) (aCons (eVar 2) (aCons (eC (.cls "BadNumber")) (aNil)))) (aNil)))) (aCons (eTup (aCons (eC (.str "value")) (aCons (eBuilt (opIsi subX) (aCons (eVar 2) (aCons (eC (.cls "BadValue")) (aNil)))) (aNil)))) (aCons (eTup (aCons (eC (.str "misfit")) (aCons (eBuilt (opIsi subX) (aCons (eVar 2) (aCons (eC (.cls "Misfit")) (aNil)))) (aNil)))) (aCons (eTup (aCons (eC (.str "nothing")) (aCons (eBuilt (opIsi subX) (aCons (eVar 2) (aCons (eC (.cls "Nothing")) (aNil)))) (aNil)))) (aNil)))))))
  (sSeq (sAsg (.nm 5) (eComp [6, 7] (.tp [.nm 6, .nm 7]) (iAny (eVar 4)) (tVal (eVar 7)) (eVar 6)))
  (sRet (eIf (tVal (e2 opEq (eBuilt (opLen) (aCons (eVar 5) (aNil))) (eC (.int 1)))) (eTup (aCons (e2 opIx (eVar 5) (eC (.int 0))) (aCons (eXa xaX "part" (eVar 2)) (aNil)))) (eTup (aCons (eC (.str "other")) (aNil))))))))))
def b_l_shared : SF := sSeq (sFor (.nm 2) (iRng1 (aCons (eC (.int 15000)) (aNil))) (sSeq (sIf (tVal (e2 opEq (eVar 1) (eC (.int 0)))) (sBreak) (sNil))
  (sPar [0, 1] (aCons (eVar 1) (aCons (e2 opMod (eBuilt (opIntS) (aCons (eVar 0) (aNil))) (eVar 1)) (aNil))))))
  (sRet (eBuilt (opAbs) (aCons (eVar 0) (aNil))))
def b_l_shared_0b_0 : SF := sIf (tVal (e2 opEq (eVar 1) (eC (.int 0)))) (sBreak) (sNil)
def b_l_shared_0b_1 : SF := sPar [0, 1] (aCons (eVar 1) (aCons (e2 opMod (eBuilt (opIntS) (aCons (eVar 0) (aNil))) (eVar 1)) (aNil)))
def b_l_shared_0b : SF := (sSeq b_l_shared_0b_0 b_l_shared_0b_1)
def b_l_shared_0 : SF := sFor (.nm 2) (iRng1 (aCons (eC (.int 15000)) (aNil))) b_l_shared_0b
def b_l_shared_1 : SF := sRet (eBuilt (opAbs) (aCons (eVar 0) (aNil)))
theorem b_l_shared_eq : b_l_shared = (sSeq b_l_shared_0 b_l_shared_1) := rfl
def f_l_shared : FF := bodyF 3 b_l_shared
def b_l_lowest : SF := sSeq (sPar [2, 3] (aCons (eCall 2 f_l_shared (aCons (eVar 0) (aCons (eVar 1) (aNil)))) (aCons (eIf (tVal (e2 opLt (eVar 1) (eC (.int 0)))) (e1 opNeg (eC (.int 1))) (eC (.int 1))) (aNil))))
  (sRet (eTup (aCons (e2 opDiv (e2 opMul (eVar 3) (eVar 0)) (eVar 2)) (aCons (e2 opDiv (e2 opMul (eVar 3) (eVar 1)) (eVar 2)) (aNil)))))
def b_l_lowest_0 : SF := sPar [2, 3] (aCons (eCall 2 f_l_shared (aCons (eVar 0) (aCons (eVar 1) (aNil)))) (aCons (eIf (tVal (e2 opLt (eVar 1) (eC (.int 0)))) (e1 opNeg (eC (.int 1))) (eC (.int 1))) (aNil)))
def b_l_lowest_1 : SF := sRet (eTup (aCons (e2 opDiv (e2 opMul (eVar 3) (eVar 0)) (eVar 2)) (aCons (e2 opDiv (e2 opMul (eVar 3) (eVar 1)) (eVar 2)) (aNil))))
theorem b_l_lowest_eq : b_l_lowest = (sSeq b_l_lowest_0 b_l_lowest_1) := rfl
def f_l_lowest : FF := bodyF 4 b_l_lowest
def b_l_whole : SF := sSeq (sAsg (.nm 1) (eIf (tVal (e2 opEq (eSl (eVar 0) pNone (pSome (eC (.int 1)))) (eC (.str "-")))) (eSl (eVar 0) (pSome (eC (.int 1))) pNone) (eVar 0)))
  (sSeq (sIf (tOrF (tVal (e2 opEq (eVar 1) (eC (.str "")))) (tOrF (tVal (e2 opGt (eBuilt (opLen) (aCons (eVar 1) (aNil))) (eC (.int 2000)))) (tVal (e2 opNe (eComp [2] (.nm 2) (iAny (eVar 1)) (tVal (e2 opNotIn (eVar 2) (eC (.str "0123456789")))) (eVar 2)) (eLst (aNil)))))) (sRet (eC .non)) (sNil))
  (sRet (eIf (tVal (e2 opEq (eBuilt (opStrW) (aCons (eBuilt (opIntS) (aCons (eVar 0) (aNil))) (aNil))) (eVar 0))) (eBuilt (opIntS) (aCons (eVar 0) (aNil))) (eC .non))))
def b_l_whole_0 : SF := sAsg (.nm 1) (eIf (tVal (e2 opEq (eSl (eVar 0) pNone (pSome (eC (.int 1)))) (eC (.str "-")))) (eSl (eVar 0) (pSome (eC (.int 1))) pNone) (eVar 0))
def b_l_whole_1 : SF := sIf (tOrF (tVal (e2 opEq (eVar 1) (eC (.str "")))) (tOrF (tVal (e2 opGt (eBuilt (opLen) (aCons (eVar 1) (aNil))) (eC (.int 2000)))) (tVal (e2 opNe (eComp [2] (.nm 2) (iAny (eVar 1)) (tVal (e2 opNotIn (eVar 2) (eC (.str "0123456789")))) (eVar 2)) (eLst (aNil)))))) (sRet (eC .non)) (sNil)
def b_l_whole_2 : SF := sRet (eIf (tVal (e2 opEq (eBuilt (opStrW) (aCons (eBuilt (opIntS) (aCons (eVar 0) (aNil))) (aNil))) (eVar 0))) (eBuilt (opIntS) (aCons (eVar 0) (aNil))) (eC .non))
theorem b_l_whole_eq : b_l_whole = (sSeq b_l_whole_0 (sSeq b_l_whole_1 b_l_whole_2)) := rfl
def f_l_whole : FF := bodyF 3 b_l_whole
def b_l_read : SF := sSeq (sAsg (.nm 1) (eSplit (eVar 0) (eC (.str "/"))))
  (sSeq (sAsg (.nm 2) (eComp [3] (.nm 3) (iAny (eVar 1)) (tTrue) (eCall 1 f_l_whole (aCons (eVar 3) (aNil)))))
  (sSeq (sIf (tOrF (tVal (e2 opIn (eC .non) (eVar 2))) (tVal (e2 opGt (eBuilt (opLen) (aCons (eVar 1) (aNil))) (eC (.int 2))))) (sRet (eC .non)) (sNil))
  (sSeq (sIf (tVal (e2 opEq (eBuilt (opLen) (aCons (eVar 1) (aNil))) (eC (.int 1)))) (sRet (eTup (aCons (e2 opIx (eVar 2) (eC (.int 0))) (aCons (eC (.int 1)) (aNil))))) (sNil))
  (sRet (eIf (tAndF (tVal (e2 opGt (e2 opIx (eVar 2) (eC (.int 1))) (eC (.int 1)))) (tVal (e2 opEq (eCall 2 f_l_shared (aCons (e2 opIx (eVar 2) (eC (.int 0))) (aCons (e2 opIx (eVar 2) (eC (.int 1))) (aNil)))) (eC (.int 1))))) (eBuilt (opTuple) (aCons (eVar 2) (aNil))) (eC .non))))))
def b_l_read_0 : SF := sAsg (.nm 1) (eSplit (eVar 0) (eC (.str "/")))
def b_l_read_1 : SF := sAsg (.nm 2) (eComp [3] (.nm 3) (iAny (eVar 1)) (tTrue) (eCall 1 f_l_whole (aCons (eVar 3) (aNil))))
def b_l_read_2 : SF := sIf (tOrF (tVal (e2 opIn (eC .non) (eVar 2))) (tVal (e2 opGt (eBuilt (opLen) (aCons (eVar 1) (aNil))) (eC (.int 2))))) (sRet (eC .non)) (sNil)
def b_l_read_3 : SF := sIf (tVal (e2 opEq (eBuilt (opLen) (aCons (eVar 1) (aNil))) (eC (.int 1)))) (sRet (eTup (aCons (e2 opIx (eVar 2) (eC (.int 0))) (aCons (eC (.int 1)) (aNil))))) (sNil)
def b_l_read_4 : SF := sRet (eIf (tAndF (tVal (e2 opGt (e2 opIx (eVar 2) (eC (.int 1))) (eC (.int 1)))) (tVal (e2 opEq (eCall 2 f_l_shared (aCons (e2 opIx (eVar 2) (eC (.int 0))) (aCons (e2 opIx (eVar 2) (eC (.int 1))) (aNil)))) (eC (.int 1))))) (eBuilt (opTuple) (aCons (eVar 2) (aNil))) (eC .non))
theorem b_l_read_eq : b_l_read = (sSeq b_l_read_0 (sSeq b_l_read_1 (sSeq b_l_read_2 (sSeq b_l_read_3 b_l_read_4)))) := rfl
def f_l_read : FF := bodyF 4 b_l_read
def b_l_bent : SF := sSeq (sPar [1, 2] (aCons (e2 opSub (eCall 2 f_l_draw (aCons (eVar 0) (aCons (eC (.int 30)) (aNil)))) (eC (.int 10))) (aCons (e2 opAdd (eC (.int 1)) (eCall 2 f_l_draw (aCons (eVar 0) (aCons (eC (.int 9)) (aNil))))) (aNil))))
  (sSeq (sPar [3, 4] (aCons (e2 opAdd (e2 opAdd (eBuilt (opStrW) (aCons (eVar 1) (aNil))) (eC (.str "/"))) (eBuilt (opStrW) (aCons (eVar 2) (aNil)))) (aCons (eCall 2 f_l_draw (aCons (eVar 0) (aCons (eC (.int 6)) (aNil)))) (aNil))))
  (sSeq (sAsg (.nm 5) (eCall 2 f_l_draw (aCons (eVar 0) (aCons (eBuilt (opLen) (aCons (eVar 3) (aNil))) (aNil)))))
  (sSeq (sAsg (.nm 6) (eCall 2 f_l_pick (aCons (eVar 0) (aCons (eLst (aCons (eC (.str "0")) (aCons (eC (.str "1")) (aCons (eC (.str "2")) (aCons (eC (.str "-")) (aCons (eC (.str "/")) (aCons (eC (.str " ")) (aCons (eC (.str "+")) (aCons (eC (.str "_")) (aCons (eC (.str ".")) (aCons (eC (.str "a")) (aCons (eC (.str "\n")) (aCons (eC (.str "")) (aNil)))))))))))))) (aNil)))))
  (sSeq (sIf (tVal (e2 opEq (eVar 4) (eC (.int 0)))) (sRet (e2 opAdd (e2 opAdd (eSl (eVar 3) pNone (pSome (eVar 5))) (eVar 6)) (eSl (eVar 3) (pSome (eVar 5)) pNone))) (sNil))
  (sSeq (sIf (tVal (e2 opEq (eVar 4) (eC (.int 1)))) (sRet (e2 opAdd (e2 opAdd (eSl (eVar 3) pNone (pSome (eVar 5))) (eVar 6)) (eSl (eVar 3) (pSome (e2 opAdd (eVar 5) (eC (.int 1)))) pNone))) (sNil))
  (sSeq (sIf (tVal (e2 opEq (eVar 4) (eC (.int 2)))) (sRet (e2 opAdd (eSl (eVar 3) pNone (pSome (eVar 5))) (eSl (eVar 3) (pSome (e2 opAdd (eVar 5) (eC (.int 1)))) pNone))) (sNil))
  (sRet (eIf (tVal (e2 opLt (eVar 4) (eC (.int 5)))) (eVar 3) (eCall 2 f_l_pick (aCons (eVar 0) (aCons (eLst (aCons (eC (.str "")) (aCons (eC (.str "-")) (aCons (eC (.str "/")) (aCons (eC (.str "-0")) (aCons (eC (.str "0/2")) (aCons (eC (.str "00")) (aCons (eC (.str "1/")) (aCons (eC (.str "/2")) (aCons (eC (.str "2/1")) (aCons (eC (.str "-3/2")) (aCons (eC (.str "0")) (aCons (e2 opMul (eC (.str "9")) (eC (.int 2000))) (aCons (e2 opMul (eC (.str "9")) (eC (.int 2001))) (aCons (e2 opAdd (eC (.str "1/")) (e2 opMul (eC (.str "9")) (eC (.int 2000)))) (aCons (e2 opAdd (eC (.str "1/")) (e2 opMul (eC (.str "9")) (eC (.int 2001)))) (aNil))))))))))))))))) (aNil))))))))))))
def b_l_bent_0 : SF := sPar [1, 2] (aCons (e2 opSub (eCall 2 f_l_draw (aCons (eVar 0) (aCons (eC (.int 30)) (aNil)))) (eC (.int 10))) (aCons (e2 opAdd (eC (.int 1)) (eCall 2 f_l_draw (aCons (eVar 0) (aCons (eC (.int 9)) (aNil))))) (aNil)))
def b_l_bent_1 : SF := sPar [3, 4] (aCons (e2 opAdd (e2 opAdd (eBuilt (opStrW) (aCons (eVar 1) (aNil))) (eC (.str "/"))) (eBuilt (opStrW) (aCons (eVar 2) (aNil)))) (aCons (eCall 2 f_l_draw (aCons (eVar 0) (aCons (eC (.int 6)) (aNil)))) (aNil)))
def b_l_bent_2 : SF := sAsg (.nm 5) (eCall 2 f_l_draw (aCons (eVar 0) (aCons (eBuilt (opLen) (aCons (eVar 3) (aNil))) (aNil))))
def b_l_bent_3 : SF := sAsg (.nm 6) (eCall 2 f_l_pick (aCons (eVar 0) (aCons (eLst (aCons (eC (.str "0")) (aCons (eC (.str "1")) (aCons (eC (.str "2")) (aCons (eC (.str "-")) (aCons (eC (.str "/")) (aCons (eC (.str " ")) (aCons (eC (.str "+")) (aCons (eC (.str "_")) (aCons (eC (.str ".")) (aCons (eC (.str "a")) (aCons (eC (.str "\n")) (aCons (eC (.str "")) (aNil)))))))))))))) (aNil))))
def b_l_bent_4 : SF := sIf (tVal (e2 opEq (eVar 4) (eC (.int 0)))) (sRet (e2 opAdd (e2 opAdd (eSl (eVar 3) pNone (pSome (eVar 5))) (eVar 6)) (eSl (eVar 3) (pSome (eVar 5)) pNone))) (sNil)
def b_l_bent_5 : SF := sIf (tVal (e2 opEq (eVar 4) (eC (.int 1)))) (sRet (e2 opAdd (e2 opAdd (eSl (eVar 3) pNone (pSome (eVar 5))) (eVar 6)) (eSl (eVar 3) (pSome (e2 opAdd (eVar 5) (eC (.int 1)))) pNone))) (sNil)
def b_l_bent_6 : SF := sIf (tVal (e2 opEq (eVar 4) (eC (.int 2)))) (sRet (e2 opAdd (eSl (eVar 3) pNone (pSome (eVar 5))) (eSl (eVar 3) (pSome (e2 opAdd (eVar 5) (eC (.int 1)))) pNone))) (sNil)
def b_l_bent_7 : SF := sRet (eIf (tVal (e2 opLt (eVar 4) (eC (.int 5)))) (eVar 3) (eCall 2 f_l_pick (aCons (eVar 0) (aCons (eLst (aCons (eC (.str "")) (aCons (eC (.str "-")) (aCons (eC (.str "/")) (aCons (eC (.str "-0")) (aCons (eC (.str "0/2")) (aCons (eC (.str "00")) (aCons (eC (.str "1/")) (aCons (eC (.str "/2")) (aCons (eC (.str "2/1")) (aCons (eC (.str "-3/2")) (aCons (eC (.str "0")) (aCons (e2 opMul (eC (.str "9")) (eC (.int 2000))) (aCons (e2 opMul (eC (.str "9")) (eC (.int 2001))) (aCons (e2 opAdd (eC (.str "1/")) (e2 opMul (eC (.str "9")) (eC (.int 2000)))) (aCons (e2 opAdd (eC (.str "1/")) (e2 opMul (eC (.str "9")) (eC (.int 2001)))) (aNil))))))))))))))))) (aNil)))))
theorem b_l_bent_eq : b_l_bent = (sSeq b_l_bent_0 (sSeq b_l_bent_1 (sSeq b_l_bent_2 (sSeq b_l_bent_3 (sSeq b_l_bent_4 (sSeq b_l_bent_5 (sSeq b_l_bent_6 b_l_bent_7))))))) := rfl
def f_l_bent : FF := bodyF 7 b_l_bent
def b_l_simplest : SF := sSeq (sFor (.nm 3) (iRng2 (aCons (eC (.int 1)) (aCons (e2 opAdd (eVar 2) (eC (.int 1))) (aNil)))) (sSeq (sPar [4, 5] (aCons (e2 opAdd (e2 opDiv (e2 opMul (e2 opIx (eVar 0) (eC (.int 0))) (eVar 3)) (e2 opIx (eVar 0) (eC (.int 1)))) (eC (.int 1))) (aCons (e2 opSub (e1 opNeg (e2 opDiv (e2 opMul (e1 opNeg (e2 opIx (eVar 1) (eC (.int 0)))) (eVar 3)) (e2 opIx (eVar 1) (eC (.int 1))))) (eC (.int 1))) (aNil))))
  (sIf (tVal (e2 opLe (eVar 4) (eVar 5))) (sRet (eTup (aCons (eIf (tBl (eChain opLe opLe (eVar 4) (eC (.int 0)) (eVar 5))) (eC (.int 0)) (eIf (tVal (e2 opGt (eVar 4) (eC (.int 0)))) (eVar 4) (eVar 5))) (aCons (eVar 3) (aNil))))) (sNil))))
  (sRet (eC .non))
def b_l_simplest_0b_0 : SF := sPar [4, 5] (aCons (e2 opAdd (e2 opDiv (e2 opMul (e2 opIx (eVar 0) (eC (.int 0))) (eVar 3)) (e2 opIx (eVar 0) (eC (.int 1)))) (eC (.int 1))) (aCons (e2 opSub (e1 opNeg (e2 opDiv (e2 opMul (e1 opNeg (e2 opIx (eVar 1) (eC (.int 0)))) (eVar 3)) (e2 opIx (eVar 1) (eC (.int 1))))) (eC (.int 1))) (aNil)))
def b_l_simplest_0b_1 : SF := sIf (tVal (e2 opLe (eVar 4) (eVar 5))) (sRet (eTup (aCons (eIf (tBl (eChain opLe opLe (eVar 4) (eC (.int 0)) (eVar 5))) (eC (.int 0)) (eIf (tVal (e2 opGt (eVar 4) (eC (.int 0)))) (eVar 4) (eVar 5))) (aCons (eVar 3) (aNil))))) (sNil)
def b_l_simplest_0b : SF := (sSeq b_l_simplest_0b_0 b_l_simplest_0b_1)
def b_l_simplest_0 : SF := sFor (.nm 3) (iRng2 (aCons (eC (.int 1)) (aCons (e2 opAdd (eVar 2) (eC (.int 1))) (aNil)))) b_l_simplest_0b
def b_l_simplest_1 : SF := sRet (eC .non)
theorem b_l_simplest_eq : b_l_simplest = (sSeq b_l_simplest_0 b_l_simplest_1) := rfl
def f_l_simplest : FF := bodyF 6 b_l_simplest
def b_law : SF := sSeq (sAsg (.nm 1) (eCall 1 f_l_pen (aCons (eVar 0) (aNil))))
  (sSeq (sFor (.nm 2) (iRng1 (aCons (eC (.int 25)) (aNil))) (sSeq (sAsg (.nm 3) (eCall 1 f_l_bent (aCons (eVar 1) (aNil))))
  (sSeq (sAsg (.nm 4) (eCall 1 f_l_read (aCons (eVar 3) (aNil))))
  (sIf (tOrF (tVal (e2 opNe (eBuilt (opReprW) (aCons (eCall 1 f_read_ratio (aCons (eVar 3) (aNil))) (aNil))) (eBuilt (opReprW) (aCons (eVar 4) (aNil))))) (tAndF (tVal (e2 opNotN (eVar 4) (eC .non))) (tVal (e2 opNe (eCall 1 f_ratio_text (aCons (eVar 4) (aNil))) (eVar 3))))) (sRet (eC (.bl false))) (sNil)))))
  (sSeq (sAsg (.nm 5) (eLst (aCons (eC .non) (aCons (eC (.int 5)) (aCons (eC (.bl true)) (aCons (eTup (aCons (eC (.int 1)) (aCons (eC (.int 2)) (aNil)))) (aCons (eLst (aCons (eC (.str "1")) (aNil))) (aCons (eC (.bl false)) (aCons (eDic) (aCons (eTup (aCons (eC (.str "1")) (aNil))) (aNil)))))))))))
  (sSeq (sIf (tVal (e2 opNe (eComp [15] (.nm 15) (iAny (eVar 5)) (tVal (e2 opNotN (eCall 1 f_read_ratio (aCons (eVar 15) (aNil))) (eC .non))) (eVar 15)) (eLst (aNil)))) (sRet (eC (.bl false))) (sNil))
  (sSeq (sAsg (.nm 6) (eLst (aCons (eC .non) (aCons (eC (.int 1)) (aCons (eC (.str "1/2")) (aCons (eTup (aNil)) (aCons (eTup (aCons (eC (.int 1)) (aNil))) (aCons (eLst (aCons (eC (.int 1)) (aCons (eC (.int 2)) (aNil)))) (aCons (eTup (aCons (eC (.int 1)) (aCons (eC (.int 2)) (aCons (eC (.int 3)) (aNil))))) (aCons (eTup (aCons (eC (.bl true)) (aCons (eC (.int 1)) (aNil)))) (aCons (eTup (aCons (eC (.int 1)) (aCons (eC (.bl true)) (aNil)))) (aCons (eTup (aCons (eC (.int 1)) (aCons (eC (.int 0)) (aNil)))) (aCons (eTup (aCons (eC (.int 1)) (aCons (e1 opNeg (eC (.int 1))) (aNil)))) (aCons (eTup (aCons (eC (.int 2)) (aCons (eC (.int 4)) (aNil)))) (aCons (eTup (aCons (eC (.int 0)) (aCons (eC (.int 2)) (aNil)))) (aCons (eTup (aCons (eC (.str "1")) (aCons (eC (.int 2)) (aNil)))) (aCons (eTup (aCons (eC (.int 1)) (aCons (eC .non) (aNil)))) (aCons (eDic) (aCons (eTup (aCons (eTup (aCons (eC (.int 1)) (aCons (eC (.int 1)) (aNil)))) (aCons (eC (.int 1)) (aNil)))) (aNil))))))))))))))))))))
  (sSeq (sAsg (.nm 7) (eLst (aCons (eTup (aCons (eC (.int 0)) (aCons (eC (.int 1)) (aNil)))) (aCons (eTup (aCons (e1 opNeg (eC (.int 3))) (aCons (eC (.int 2)) (aNil)))) (aCons (eTup (aCons (eC (.int 7)) (aCons (eC (.int 1)) (aNil)))) (aCons (eTup (aCons (e2 opPow (eC (.int 10)) (eC (.int 30))) (aCons (e2 opAdd (e2 opPow (eC (.int 10)) (eC (.int 30))) (eC (.int 1))) (aNil)))) (aCons (eTup (aCons (e1 opNeg (eC (.int 1))) (aCons (e2 opPow (eC (.int 10)) (eC (.int 50))) (aNil)))) (aNil))))))))
  (sSeq (sIf (tOrF (tVal (e2 opNe (eComp [15] (.nm 15) (iAny (eVar 6)) (tVal (e2 opNotB (eCall 1 f_is_ratio (aCons (eVar 15) (aNil))) (eC (.bl false)))) (eVar 15)) (eLst (aNil)))) (tVal (e2 opNe (eComp [15] (.nm 15) (iAny (eVar 7)) (tVal (e2 opNotB (eCallX 0 1 [.k 0] f_is_ratio aNil (aCons (eVar 15) (aNil))) (eC (.bl true)))) (eVar 15)) (eLst (aNil))))) (sRet (eC (.bl false))) (sNil))
  (sSeq (sFor (.nm 2) (iRng1 (aCons (eC (.int 8)) (aNil))) (sSeq (sAsg (.nm 13) (eCall 2 f_l_lowest (aCons (e2 opSub (eCall 2 f_l_draw (aCons (eVar 1) (aCons (eC (.int 60)) (aNil)))) (eC (.int 30))) (aCons (e2 opAdd (eC (.int 1)) (eCall 2 f_l_draw (aCons (eVar 1) (aCons (eC (.int 14)) (aNil))))) (aNil)))))
  (sSeq (sAsg (.nm 14) (eIf (tVal (e2 opEq (eCall 2 f_l_draw (aCons (eVar 1) (aCons (eC (.int 2)) (aNil)))) (eC (.int 0)))) (eCall 2 f_l_lowest (aCons (e2 opAdd (e2 opMul (e2 opIx (eVar 13) (eC (.int 0))) (eC (.int 20))) (eCall 2 f_l_pick (aCons (eVar 1) (aCons (eLst (aCons (eC (.int 1)) (aCons (eC (.int 1)) (aCons (eC (.int 3)) (aCons (eC (.int 20)) (aCons (eC (.int 70)) (aNil))))))) (aNil))))) (aCons (e2 opMul (e2 opIx (eVar 13) (eC (.int 1))) (eC (.int 20))) (aNil)))) (eCall 2 f_l_lowest (aCons (e2 opSub (eCall 2 f_l_draw (aCons (eVar 1) (aCons (eC (.int 60)) (aNil)))) (eC (.int 30))) (aCons (e2 opAdd (eC (.int 1)) (eCall 2 f_l_draw (aCons (eVar 1) (aCons (eC (.int 14)) (aNil))))) (aNil))))))
  (sSeq (sIf (tVal (e2 opGe (e2 opMul (e2 opIx (eVar 13) (eC (.int 0))) (e2 opIx (eVar 14) (eC (.int 1)))) (e2 opMul (e2 opIx (eVar 14) (eC (.int 0))) (e2 opIx (eVar 13) (eC (.int 1)))))) (sSeq (sIf (tVal (e2 opNe (eHeard hF (eCall 2 f_simplest (aCons (eVar 13) (aCons (eVar 14) (aNil))))) (eTup (aCons (eC (.str "misfit")) (aCons (eC (.str "high")) (aNil)))))) (sRet (eC (.bl false))) (sNil))
  (sAsg (.tp [.nm 13, .nm 14]) (eTup (aCons (eVar 14) (aCons (eVar 13) (aNil)))))) (sNil))
  (sIf (tAndF (tVal (e2 opNe (eVar 13) (eVar 14))) (tVal (e2 opNe (eLst (aCons (eCall 2 f_simplest (aCons (eVar 13) (aCons (eVar 14) (aNil)))) (aCons (eCallX 0 2 [.k 1, .k 0] f_simplest aNil (aCons (eVar 14) (aCons (eVar 13) (aNil)))) (aNil)))) (e2 opMul (eLst (aCons (eCall 3 f_l_simplest (aCons (eVar 13) (aCons (eVar 14) (aCons (e2 opAdd (e2 opIx (eVar 13) (eC (.int 1))) (e2 opIx (eVar 14) (eC (.int 1)))) (aNil))))) (aNil))) (eC (.int 2)))))) (sRet (eC (.bl false))) (sNil))))))
  (sSeq (sFor (.nm 2) (iRng1 (aCons (eC (.int 4)) (aNil))) (sSeq (sAsg (.nm 8) (e2 opSub (eCall 2 f_l_draw (aCons (eVar 1) (aCons (eC (.int 9)) (aNil)))) (eC (.int 4))))
  (sSeq (sPar [9, 10] (aCons (eTup (aCons (eVar 8) (aCons (eC (.int 1)) (aNil)))) (aCons (eTup (aCons (e2 opAdd (eVar 8) (eC (.int 1))) (aCons (eC (.int 1)) (aNil)))) (aNil))))
  (sSeq (sFor (.nm 11) (iRng1 (aCons (e2 opAdd (eC (.int 1)) (eCall 2 f_l_draw (aCons (eVar 1) (aCons (eC (.int 6)) (aNil))))) (aNil))) (sSeq (sAsg (.nm 12) (eCall 2 f_l_pick (aCons (eVar 1) (aCons (eLst (aCons (eC (.int 1)) (aCons (eC (.int 2)) (aCons (eC (.int 3)) (aCons (eC (.int 40)) (aCons (e2 opPow (eC (.int 10)) (eC (.int 6))) (aCons (e2 opAdd (e2 opPow (eC (.int 10)) (eC (.int 20))) (eC (.int 1))) (aNil)))))))) (aNil)))))
  (sIf (tVal (e2 opEq (eCall 2 f_l_draw (aCons (eVar 1) (aCons (eC (.int 2)) (aNil)))) (eC (.int 0)))) (sAsg (.nm 9) (eTup (aCons (e2 opAdd (e2 opIx (eVar 9) (eC (.int 0))) (e2 opMul (eVar 12) (e2 opIx (eVar 10) (eC (.int 0))))) (aCons (e2 opAdd (e2 opIx (eVar 9) (eC (.int 1))) (e2 opMul (eVar 12) (e2 opIx (eVar 10) (eC (.int 1))))) (aNil))))) (sAsg (.nm 10) (eTup (aCons (e2 opAdd (e2 opIx (eVar 10) (eC (.int 0))) (e2 opMul (eVar 12) (e2 opIx (eVar 9) (eC (.int 0))))) (aCons (e2 opAdd (e2 opIx (eVar 10) (eC (.int 1))) (e2 opMul (eVar 12) (e2 opIx (eVar 9) (eC (.int 1))))) (aNil))))))))
  (sIf (tVal (e2 opNe (eCall 2 f_simplest (aCons (eVar 9) (aCons (eVar 10) (aNil)))) (eTup (aCons (e2 opAdd (e2 opIx (eVar 9) (eC (.int 0))) (e2 opIx (eVar 10) (eC (.int 0)))) (aCons (e2 opAdd (e2 opIx (eVar 9) (eC (.int 1))) (e2 opIx (eVar 10) (eC (.int 1)))) (aNil)))))) (sRet (eC (.bl false))) (sNil))))))
  (sRet (e2 opEq (eHeard hF (eCall 2 f_simplest (aCons (eTup (aCons (eC (.int 1)) (aCons (eC (.int 2)) (aNil)))) (aCons (eTup (aCons (eC (.int 1)) (aCons (eC (.int 2)) (aNil)))) (aNil))))) (eTup (aCons (eC (.str "misfit")) (aCons (eC (.str "high")) (aNil))))))))))))))
def b_law_0 : SF := sAsg (.nm 1) (eCall 1 f_l_pen (aCons (eVar 0) (aNil)))
def b_law_1b_0 : SF := sAsg (.nm 3) (eCall 1 f_l_bent (aCons (eVar 1) (aNil)))
def b_law_1b_1 : SF := sAsg (.nm 4) (eCall 1 f_l_read (aCons (eVar 3) (aNil)))
def b_law_1b_2 : SF := sIf (tOrF (tVal (e2 opNe (eBuilt (opReprW) (aCons (eCall 1 f_read_ratio (aCons (eVar 3) (aNil))) (aNil))) (eBuilt (opReprW) (aCons (eVar 4) (aNil))))) (tAndF (tVal (e2 opNotN (eVar 4) (eC .non))) (tVal (e2 opNe (eCall 1 f_ratio_text (aCons (eVar 4) (aNil))) (eVar 3))))) (sRet (eC (.bl false))) (sNil)
def b_law_1b : SF := (sSeq b_law_1b_0 (sSeq b_law_1b_1 b_law_1b_2))
def b_law_1 : SF := sFor (.nm 2) (iRng1 (aCons (eC (.int 25)) (aNil))) b_law_1b
def b_law_2 : SF := sAsg (.nm 5) (eLst (aCons (eC .non) (aCons (eC (.int 5)) (aCons (eC (.bl true)) (aCons (eTup (aCons (eC (.int 1)) (aCons (eC (.int 2)) (aNil)))) (aCons (eLst (aCons (eC (.str "1")) (aNil))) (aCons (eC (.bl false)) (aCons (eDic) (aCons (eTup (aCons (eC (.str "1")) (aNil))) (aNil))))))))))
def b_law_3 : SF := sIf (tVal (e2 opNe (eComp [15] (.nm 15) (iAny (eVar 5)) (tVal (e2 opNotN (eCall 1 f_read_ratio (aCons (eVar 15) (aNil))) (eC .non))) (eVar 15)) (eLst (aNil)))) (sRet (eC (.bl false))) (sNil)
def b_law_4 : SF := sAsg (.nm 6) (eLst (aCons (eC .non) (aCons (eC (.int 1)) (aCons (eC (.str "1/2")) (aCons (eTup (aNil)) (aCons (eTup (aCons (eC (.int 1)) (aNil))) (aCons (eLst (aCons (eC (.int 1)) (aCons (eC (.int 2)) (aNil)))) (aCons (eTup (aCons (eC (.int 1)) (aCons (eC (.int 2)) (aCons (eC (.int 3)) (aNil))))) (aCons (eTup (aCons (eC (.bl true)) (aCons (eC (.int 1)) (aNil)))) (aCons (eTup (aCons (eC (.int 1)) (aCons (eC (.bl true)) (aNil)))) (aCons (eTup (aCons (eC (.int 1)) (aCons (eC (.int 0)) (aNil)))) (aCons (eTup (aCons (eC (.int 1)) (aCons (e1 opNeg (eC (.int 1))) (aNil)))) (aCons (eTup (aCons (eC (.int 2)) (aCons (eC (.int 4)) (aNil)))) (aCons (eTup (aCons (eC (.int 0)) (aCons (eC (.int 2)) (aNil)))) (aCons (eTup (aCons (eC (.str "1")) (aCons (eC (.int 2)) (aNil)))) (aCons (eTup (aCons (eC (.int 1)) (aCons (eC .non) (aNil)))) (aCons (eDic) (aCons (eTup (aCons (eTup (aCons (eC (.int 1)) (aCons (eC (.int 1)) (aNil)))) (aCons (eC (.int 1)) (aNil)))) (aNil)))))))))))))))))))
def b_law_5 : SF := sAsg (.nm 7) (eLst (aCons (eTup (aCons (eC (.int 0)) (aCons (eC (.int 1)) (aNil)))) (aCons (eTup (aCons (e1 opNeg (eC (.int 3))) (aCons (eC (.int 2)) (aNil)))) (aCons (eTup (aCons (eC (.int 7)) (aCons (eC (.int 1)) (aNil)))) (aCons (eTup (aCons (e2 opPow (eC (.int 10)) (eC (.int 30))) (aCons (e2 opAdd (e2 opPow (eC (.int 10)) (eC (.int 30))) (eC (.int 1))) (aNil)))) (aCons (eTup (aCons (e1 opNeg (eC (.int 1))) (aCons (e2 opPow (eC (.int 10)) (eC (.int 50))) (aNil)))) (aNil)))))))
def b_law_6 : SF := sIf (tOrF (tVal (e2 opNe (eComp [15] (.nm 15) (iAny (eVar 6)) (tVal (e2 opNotB (eCall 1 f_is_ratio (aCons (eVar 15) (aNil))) (eC (.bl false)))) (eVar 15)) (eLst (aNil)))) (tVal (e2 opNe (eComp [15] (.nm 15) (iAny (eVar 7)) (tVal (e2 opNotB (eCallX 0 1 [.k 0] f_is_ratio aNil (aCons (eVar 15) (aNil))) (eC (.bl true)))) (eVar 15)) (eLst (aNil))))) (sRet (eC (.bl false))) (sNil)
def b_law_7b_0 : SF := sAsg (.nm 13) (eCall 2 f_l_lowest (aCons (e2 opSub (eCall 2 f_l_draw (aCons (eVar 1) (aCons (eC (.int 60)) (aNil)))) (eC (.int 30))) (aCons (e2 opAdd (eC (.int 1)) (eCall 2 f_l_draw (aCons (eVar 1) (aCons (eC (.int 14)) (aNil))))) (aNil))))
def b_law_7b_1 : SF := sAsg (.nm 14) (eIf (tVal (e2 opEq (eCall 2 f_l_draw (aCons (eVar 1) (aCons (eC (.int 2)) (aNil)))) (eC (.int 0)))) (eCall 2 f_l_lowest (aCons (e2 opAdd (e2 opMul (e2 opIx (eVar 13) (eC (.int 0))) (eC (.int 20))) (eCall 2 f_l_pick (aCons (eVar 1) (aCons (eLst (aCons (eC (.int 1)) (aCons (eC (.int 1)) (aCons (eC (.int 3)) (aCons (eC (.int 20)) (aCons (eC (.int 70)) (aNil))))))) (aNil))))) (aCons (e2 opMul (e2 opIx (eVar 13) (eC (.int 1))) (eC (.int 20))) (aNil)))) (eCall 2 f_l_lowest (aCons (e2 opSub (eCall 2 f_l_draw (aCons (eVar 1) (aCons (eC (.int 60)) (aNil)))) (eC (.int 30))) (aCons (e2 opAdd (eC (.int 1)) (eCall 2 f_l_draw (aCons (eVar 1) (aCons (eC (.int 14)) (aNil))))) (aNil)))))
def b_law_7b_2 : SF := sIf (tVal (e2 opGe (e2 opMul (e2 opIx (eVar 13) (eC (.int 0))) (e2 opIx (eVar 14) (eC (.int 1)))) (e2 opMul (e2 opIx (eVar 14) (eC (.int 0))) (e2 opIx (eVar 13) (eC (.int 1)))))) (sSeq (sIf (tVal (e2 opNe (eHeard hF (eCall 2 f_simplest (aCons (eVar 13) (aCons (eVar 14) (aNil))))) (eTup (aCons (eC (.str "misfit")) (aCons (eC (.str "high")) (aNil)))))) (sRet (eC (.bl false))) (sNil))
  (sAsg (.tp [.nm 13, .nm 14]) (eTup (aCons (eVar 14) (aCons (eVar 13) (aNil)))))) (sNil)
def b_law_7b_3 : SF := sIf (tAndF (tVal (e2 opNe (eVar 13) (eVar 14))) (tVal (e2 opNe (eLst (aCons (eCall 2 f_simplest (aCons (eVar 13) (aCons (eVar 14) (aNil)))) (aCons (eCallX 0 2 [.k 1, .k 0] f_simplest aNil (aCons (eVar 14) (aCons (eVar 13) (aNil)))) (aNil)))) (e2 opMul (eLst (aCons (eCall 3 f_l_simplest (aCons (eVar 13) (aCons (eVar 14) (aCons (e2 opAdd (e2 opIx (eVar 13) (eC (.int 1))) (e2 opIx (eVar 14) (eC (.int 1)))) (aNil))))) (aNil))) (eC (.int 2)))))) (sRet (eC (.bl false))) (sNil)
def b_law_7b : SF := (sSeq b_law_7b_0 (sSeq b_law_7b_1 (sSeq b_law_7b_2 b_law_7b_3)))
def b_law_7 : SF := sFor (.nm 2) (iRng1 (aCons (eC (.int 8)) (aNil))) b_law_7b
def b_law_8b_0 : SF := sAsg (.nm 8) (e2 opSub (eCall 2 f_l_draw (aCons (eVar 1) (aCons (eC (.int 9)) (aNil)))) (eC (.int 4)))
def b_law_8b_1 : SF := sPar [9, 10] (aCons (eTup (aCons (eVar 8) (aCons (eC (.int 1)) (aNil)))) (aCons (eTup (aCons (e2 opAdd (eVar 8) (eC (.int 1))) (aCons (eC (.int 1)) (aNil)))) (aNil)))
def b_law_8b_2b_0 : SF := sAsg (.nm 12) (eCall 2 f_l_pick (aCons (eVar 1) (aCons (eLst (aCons (eC (.int 1)) (aCons (eC (.int 2)) (aCons (eC (.int 3)) (aCons (eC (.int 40)) (aCons (e2 opPow (eC (.int 10)) (eC (.int 6))) (aCons (e2 opAdd (e2 opPow (eC (.int 10)) (eC (.int 20))) (eC (.int 1))) (aNil)))))))) (aNil))))
def b_law_8b_2b_1 : SF := sIf (tVal (e2 opEq (eCall 2 f_l_draw (aCons (eVar 1) (aCons (eC (.int 2)) (aNil)))) (eC (.int 0)))) (sAsg (.nm 9) (eTup (aCons (e2 opAdd (e2 opIx (eVar 9) (eC (.int 0))) (e2 opMul (eVar 12) (e2 opIx (eVar 10) (eC (.int 0))))) (aCons (e2 opAdd (e2 opIx (eVar 9) (eC (.int 1))) (e2 opMul (eVar 12) (e2 opIx (eVar 10) (eC (.int 1))))) (aNil))))) (sAsg (.nm 10) (eTup (aCons (e2 opAdd (e2 opIx (eVar 10) (eC (.int 0))) (e2 opMul (eVar 12) (e2 opIx (eVar 9) (eC (.int 0))))) (aCons (e2 opAdd (e2 opIx (eVar 10) (eC (.int 1))) (e2 opMul (eVar 12) (e2 opIx (eVar 9) (eC (.int 1))))) (aNil)))))
def b_law_8b_2b : SF := (sSeq b_law_8b_2b_0 b_law_8b_2b_1)
def b_law_8b_2 : SF := sFor (.nm 11) (iRng1 (aCons (e2 opAdd (eC (.int 1)) (eCall 2 f_l_draw (aCons (eVar 1) (aCons (eC (.int 6)) (aNil))))) (aNil))) b_law_8b_2b
def b_law_8b_3 : SF := sIf (tVal (e2 opNe (eCall 2 f_simplest (aCons (eVar 9) (aCons (eVar 10) (aNil)))) (eTup (aCons (e2 opAdd (e2 opIx (eVar 9) (eC (.int 0))) (e2 opIx (eVar 10) (eC (.int 0)))) (aCons (e2 opAdd (e2 opIx (eVar 9) (eC (.int 1))) (e2 opIx (eVar 10) (eC (.int 1)))) (aNil)))))) (sRet (eC (.bl false))) (sNil)
def b_law_8b : SF := (sSeq b_law_8b_0 (sSeq b_law_8b_1 (sSeq b_law_8b_2 b_law_8b_3)))
def b_law_8 : SF := sFor (.nm 2) (iRng1 (aCons (eC (.int 4)) (aNil))) b_law_8b
def b_law_9 : SF := sRet (e2 opEq (eHeard hF (eCall 2 f_simplest (aCons (eTup (aCons (eC (.int 1)) (aCons (eC (.int 2)) (aNil)))) (aCons (eTup (aCons (eC (.int 1)) (aCons (eC (.int 2)) (aNil)))) (aNil))))) (eTup (aCons (eC (.str "misfit")) (aCons (eC (.str "high")) (aNil)))))
theorem b_law_eq : b_law = (sSeq b_law_0 (sSeq b_law_1 (sSeq b_law_2 (sSeq b_law_3 (sSeq b_law_4 (sSeq b_law_5 (sSeq b_law_6 (sSeq b_law_7 (sSeq b_law_8 b_law_9))))))))) := rfl
def f_law : FF := bodyF 16 b_law
/-- what is known of the written part -/
structure Fx (P : Program) (K : PySem.W.Frag) (mg : Str → Option Value) : Type where
  a_is_integer : Addr
  d_is_integer : FuncData
  m_is_integer : mg "is_integer" = some (.ref a_is_integer)
  k_is_integer : PySem.W.keepIn K (.ref a_is_integer) = true
  F_is_integer : FunA K "is_integer" s_is_integer a_is_integer d_is_integer .none (fun v => True)
  b_is_integer : Binds K d_is_integer ["value"] []
  a_lowest : Addr
  d_lowest : FuncData
  m_lowest : mg "lowest" = some (.ref a_lowest)
  k_lowest : PySem.W.keepIn K (.ref a_lowest) = true
  F_lowest : FunA K "lowest" s_lowest a_lowest d_lowest .none (fun v => True)
  b_lowest : Binds K d_lowest ["top", "bottom"] []
  a_is_short : Addr
  d_is_short : FuncData
  m_is_short : mg "is_short" = some (.ref a_is_short)
  k_is_short : PySem.W.keepIn K (.ref a_is_short) = true
  F_is_short : FunA K "is_short" s_is_short a_is_short d_is_short .none (fun v => True)
  b_is_short : Binds K d_is_short ["number"] []
  a_read_whole : Addr
  d_read_whole : FuncData
  m_read_whole : mg "read_whole" = some (.ref a_read_whole)
  k_read_whole : PySem.W.keepIn K (.ref a_read_whole) = true
  F_read_whole : FunA K "read_whole" s_read_whole a_read_whole d_read_whole .none (fun v => True)
  b_read_whole : Binds K d_read_whole ["word"] []
  a_is_ratio : Addr
  d_is_ratio : FuncData
  m_is_ratio : mg "is_ratio" = some (.ref a_is_ratio)
  k_is_ratio : PySem.W.keepIn K (.ref a_is_ratio) = true
  F_is_ratio : FunA K "is_ratio" s_is_ratio a_is_ratio d_is_ratio .none (fun v => True)
  b_is_ratio : Binds K d_is_ratio ["value"] []
  a_plus : Addr
  d_plus : FuncData
  m_plus : mg "plus" = some (.ref a_plus)
  k_plus : PySem.W.keepIn K (.ref a_plus) = true
  F_plus : FunA K "plus" s_plus a_plus d_plus .none (fun v => True)
  b_plus : Binds K d_plus ["one", "other"] []
  a_minus : Addr
  d_minus : FuncData
  m_minus : mg "minus" = some (.ref a_minus)
  k_minus : PySem.W.keepIn K (.ref a_minus) = true
  F_minus : FunA K "minus" s_minus a_minus d_minus .none (fun v => True)
  b_minus : Binds K d_minus ["one", "other"] []
  a_negated : Addr
  d_negated : FuncData
  m_negated : mg "negated" = some (.ref a_negated)
  k_negated : PySem.W.keepIn K (.ref a_negated) = true
  F_negated : FunA K "negated" s_negated a_negated d_negated .none (fun v => True)
  b_negated : Binds K d_negated ["one"] []
  a_over : Addr
  d_over : FuncData
  m_over : mg "over" = some (.ref a_over)
  k_over : PySem.W.keepIn K (.ref a_over) = true
  F_over : FunA K "over" s_over a_over d_over .none (fun v => True)
  b_over : Binds K d_over ["one", "other"] []
  a_less : Addr
  d_less : FuncData
  m_less : mg "less" = some (.ref a_less)
  k_less : PySem.W.keepIn K (.ref a_less) = true
  F_less : FunA K "less" s_less a_less d_less .none (fun v => True)
  b_less : Binds K d_less ["one", "other"] []
  a_simplest_above : Addr
  d_simplest_above : FuncData
  m_simplest_above : mg "simplest_above" = some (.ref a_simplest_above)
  k_simplest_above : PySem.W.keepIn K (.ref a_simplest_above) = true
  F_simplest_above : FunA K "simplest_above" s_simplest_above a_simplest_above d_simplest_above .none (fun v => True)
  b_simplest_above : Binds K d_simplest_above ["low", "high"] []
  a_simplest : Addr
  d_simplest : FuncData
  m_simplest : mg "simplest" = some (.ref a_simplest)
  k_simplest : PySem.W.keepIn K (.ref a_simplest) = true
  F_simplest : FunA K "simplest" s_simplest a_simplest d_simplest .none (fun v => True)
  b_simplest : Binds K d_simplest ["low", "high"] []
  a_ratio_text : Addr
  d_ratio_text : FuncData
  m_ratio_text : mg "ratio_text" = some (.ref a_ratio_text)
  k_ratio_text : PySem.W.keepIn K (.ref a_ratio_text) = true
  F_ratio_text : FunA K "ratio_text" s_ratio_text a_ratio_text d_ratio_text .none (fun v => True)
  b_ratio_text : Binds K d_ratio_text ["one"] []
  a_read_ratio : Addr
  d_read_ratio : FuncData
  m_read_ratio : mg "read_ratio" = some (.ref a_read_ratio)
  k_read_ratio : PySem.W.keepIn K (.ref a_read_ratio) = true
  F_read_ratio : FunA K "read_ratio" s_read_ratio a_read_ratio d_read_ratio .none (fun v => True)
  b_read_ratio : Binds K d_read_ratio ["word"] []
  a_l_pen : Addr
  d_l_pen : FuncData
  m_l_pen : mg "_law_pen" = some (.ref a_l_pen)
  k_l_pen : PySem.W.keepIn K (.ref a_l_pen) = true
  F_l_pen : FunA K "_law_pen" s_l_pen a_l_pen d_l_pen .none (fun v => True)
  b_l_pen : Binds K d_l_pen ["script"] []
  a_l_draw : Addr
  d_l_draw : FuncData
  m_l_draw : mg "_law_draw" = some (.ref a_l_draw)
  k_l_draw : PySem.W.keepIn K (.ref a_l_draw) = true
  F_l_draw : FunA K "_law_draw" s_l_draw a_l_draw d_l_draw .none (fun v => True)
  b_l_draw : Binds K d_l_draw ["pen", "many"] []
  a_l_pick : Addr
  d_l_pick : FuncData
  m_l_pick : mg "_law_pick" = some (.ref a_l_pick)
  k_l_pick : PySem.W.keepIn K (.ref a_l_pick) = true
  F_l_pick : FunA K "_law_pick" s_l_pick a_l_pick d_l_pick .none (fun v => True)
  b_l_pick : Binds K d_l_pick ["pen", "some"] []
  a_l_heard : Addr
  d_l_heard : FuncData
  m_l_heard : mg "_law_heard" = some (.ref a_l_heard)
  k_l_heard : PySem.W.keepIn K (.ref a_l_heard) = true
  F_l_heard : FunA K "_law_heard" s_l_heard a_l_heard d_l_heard .none (fun v => True)
  b_l_heard : Binds K d_l_heard ["ask"] []
  a_l_shared : Addr
  d_l_shared : FuncData
  m_l_shared : mg "_law_shared" = some (.ref a_l_shared)
  k_l_shared : PySem.W.keepIn K (.ref a_l_shared) = true
  F_l_shared : FunA K "_law_shared" s_l_shared a_l_shared d_l_shared .none (fun v => True)
  b_l_shared : Binds K d_l_shared ["one", "other"] []
  a_l_lowest : Addr
  d_l_lowest : FuncData
  m_l_lowest : mg "_law_lowest" = some (.ref a_l_lowest)
  k_l_lowest : PySem.W.keepIn K (.ref a_l_lowest) = true
  F_l_lowest : FunA K "_law_lowest" s_l_lowest a_l_lowest d_l_lowest .none (fun v => True)
  b_l_lowest : Binds K d_l_lowest ["top", "bottom"] []
  a_l_whole : Addr
  d_l_whole : FuncData
  m_l_whole : mg "_law_whole" = some (.ref a_l_whole)
  k_l_whole : PySem.W.keepIn K (.ref a_l_whole) = true
  F_l_whole : FunA K "_law_whole" s_l_whole a_l_whole d_l_whole .none (fun v => True)
  b_l_whole : Binds K d_l_whole ["word"] []
  a_l_read : Addr
  d_l_read : FuncData
  m_l_read : mg "_law_read" = some (.ref a_l_read)
  k_l_read : PySem.W.keepIn K (.ref a_l_read) = true
  F_l_read : FunA K "_law_read" s_l_read a_l_read d_l_read .none (fun v => True)
  b_l_read : Binds K d_l_read ["word"] []
  a_l_bent : Addr
  d_l_bent : FuncData
  m_l_bent : mg "_law_bent" = some (.ref a_l_bent)
  k_l_bent : PySem.W.keepIn K (.ref a_l_bent) = true
  F_l_bent : FunA K "_law_bent" s_l_bent a_l_bent d_l_bent .none (fun v => True)
  b_l_bent : Binds K d_l_bent ["pen"] []
  a_l_simplest : Addr
  d_l_simplest : FuncData
  m_l_simplest : mg "_law_simplest" = some (.ref a_l_simplest)
  k_l_simplest : PySem.W.keepIn K (.ref a_l_simplest) = true
  F_l_simplest : FunA K "_law_simplest" s_l_simplest a_l_simplest d_l_simplest .none (fun v => True)
  b_l_simplest : Binds K d_l_simplest ["low", "high", "most"] []
  a_law : Addr
  d_law : FuncData
  m_law : mg "law" = some (.ref a_law)
  k_law : PySem.W.keepIn K (.ref a_law) = true
  c_law : Addr
  P_law : Addr
  F_law : FunA K "law" s_law a_law d_law .none (fun v => v = .ref c_law)
  b_law : Binds K d_law ["script"] []
  u_FIGURES : Value
  m_FIGURES : mg "FIGURES" = some u_FIGURES
  c_FIGURES : ∀ T, ConstR (Gx.mk K T mg xaX) u_FIGURES k_FIGURES
  u_MOST_FIGURES : Value
  m_MOST_FIGURES : mg "MOST_FIGURES" = some u_MOST_FIGURES
  c_MOST_FIGURES : ∀ T, ConstR (Gx.mk K T mg xaX) u_MOST_FIGURES k_MOST_FIGURES
  u_ONE : Value
  m_ONE : mg "ONE" = some u_ONE
  c_ONE : ∀ T, ConstR (Gx.mk K T mg xaX) u_ONE k_ONE
  u_ZERO : Value
  m_ZERO : mg "ZERO" = some u_ZERO
  c_ZERO : ∀ T, ConstR (Gx.mk K T mg xaX) u_ZERO k_ZERO
  n_abs : mg "abs" = none
  n_all : mg "all" = none
  n_bool : mg "bool" = none
  n_int : mg "int" = none
  n_isinstance : mg "isinstance" = none
  n_len : mg "len" = none
  n_range : mg "range" = none
  n_repr : mg "repr" = none
  n_str : mg "str" = none
  n_tuple : mg "tuple" = none
  m_gcd : mg "gcd" = some (.builtin "math.gcd")
  C_BadNumber : Addr
  m_BadNumber : mg "BadNumber" = some (.ref C_BadNumber)
  C_BadValue : Addr
  m_BadValue : mg "BadValue" = some (.ref C_BadValue)
  C_Misfit : Addr
  m_Misfit : mg "Misfit" = some (.ref C_Misfit)
  C_Nothing : Addr
  m_Nothing : mg "Nothing" = some (.ref C_Nothing)
  C_TooMany : Addr
  m_TooMany : mg "TooMany" = some (.ref C_TooMany)
  C_WorldError : Addr
  m_WorldError : mg "WorldError" = some (.ref C_WorldError)
  x_BadNumber : ∀ X : Cx, X.prog = P → X.K = K → X.mg = mg → ExcOk X "BadNumber" C_BadNumber ["part"]
  x_BadValue : ∀ X : Cx, X.prog = P → X.K = K → X.mg = mg → ExcOk X "BadValue" C_BadValue ["part"]
  x_Misfit : ∀ X : Cx, X.prog = P → X.K = K → X.mg = mg → ExcOk X "Misfit" C_Misfit ["part"]
  x_Nothing : ∀ X : Cx, X.prog = P → X.K = K → X.mg = mg → ExcOk X "Nothing" C_Nothing ["part"]
  x_TooMany : ∀ X : Cx, X.prog = P → X.K = K → X.mg = mg → ExcOk X "TooMany" C_TooMany ["what", "most"]
  subK : ∀ (c c2 : Str) (b : Bool) (C C2 : Addr), subX c c2 = some b → mg c = some (.ref C) → mg c2 = some (.ref C2) → PySem.W.kitOne K (.ref C) (.ref C2) = some b ∧ ExcC K C
  isK : ∀ (c1 : Str) (C : Addr) (b : Bool), isX c1 = some b → mg c1 = some (.ref C) → PySem.W.exmOne K (.ref C) (.ref C_WorldError) = some b
  xfK : ∀ (n c : Str) (C : Addr), n ∈ xaX c → mg c = some (.ref C) → XfC K C ∧ PySem.W.findIn K (.ref C) n = some none
  w_is_ratio_0_value : ∀ T, CallA K d_is_ratio ["value"] (Gx.mk K T mg xaX) 0 ["value"] [.k 0]
  w_simplest_0_high_low : ∀ T, CallA K d_simplest ["low", "high"] (Gx.mk K T mg xaX) 0 ["high", "low"] [.k 1, .k 0]
  Pne : [P_law].Nodup
def tabs {P : Program} {K : PySem.W.Frag} {mg : Str → Option Value} (Fa : Fx P K mg) : List (Addr × Str) := [(Fa.P_law, (("law" : Str) ++ ".<locals>.") ++ "<lambda>")]
abbrev gx {P : Program} {K : PySem.W.Frag} {mg : Str → Option Value} (Fa : Fx P K mg) : Gx := ⟨K, tabs Fa, mg, xaX⟩
structure Bx {P : Program} {K : PySem.W.Frag} {mg : Str → Option Value} (Fa : Fx P K mg) (base : Heap) : Prop where
  dig : base.NoDigits
  TB_law : TabB base mg Fa.c_law Fa.P_law
section
variable {P : Program} {w : World} {K : PySem.W.Frag} {mg : Str → Option Value} {base : Heap}
theorem T_law (Fa : Fx P K mg) : (Fa.P_law, (("law" : Str) ++ ".<locals>.") ++ "<lambda>") ∈ (gx Fa).T := by
  show _ ∈ tabs Fa
  unfold tabs
  simp
theorem U_law (Fa : Fx P K mg) : ∀ p ∈ (gx Fa).T, p.1 = Fa.P_law → p.2 = (("law" : Str) ++ ".<locals>.") ++ "<lambda>" := by
  intro p hp e
  have hp : p ∈ tabs Fa := hp
  have hn := Fa.Pne
  unfold tabs at hp
  simp only [List.mem_cons, List.not_mem_nil, or_false] at hp
  simp only [List.nodup_cons, List.mem_cons, List.not_mem_nil, or_false, not_or, List.nodup_nil, and_true, not_false_iff] at hn
  rw [hp]
end
end K01
end
section
set_option Elab.async false
set_option linter.all false
set_option maxRecDepth 100000
set_option maxHeartbeats 400000
open PySem PySem.Spec PyProof.Rows L2 LamX FL
namespace K01
theorem isX_cases (c : Str) : c = "BadNumber" ∨ c = "BadValue" ∨ c = "Misfit" ∨ c = "Nothing" ∨ c = "TooMany" ∨ isX c = none := by
  by_cases h0 : c = "BadNumber"; · exact .inl h0
  by_cases h1 : c = "BadValue"; · exact .inr (.inl h1)
  by_cases h2 : c = "Misfit"; · exact .inr (.inr (.inl h2))
  by_cases h3 : c = "Nothing"; · exact .inr (.inr (.inr (.inl h3)))
  by_cases h4 : c = "TooMany"; · exact .inr (.inr (.inr (.inr (.inl h4))))
  refine .inr (.inr (.inr (.inr (.inr (?_)))))
  unfold isX isL
  simp only [List.lookup, beq_eq_false_iff_ne.mpr h0, beq_eq_false_iff_ne.mpr h1, beq_eq_false_iff_ne.mpr h2, beq_eq_false_iff_ne.mpr h3, beq_eq_false_iff_ne.mpr h4]
theorem ix0 : isX "BadNumber" = some true := by decide +kernel
theorem sx0_0 : subX "BadNumber" "BadNumber" = some true := by decide +kernel
theorem sx0_1 : subX "BadNumber" "BadValue" = some false := by decide +kernel
theorem sx0_2 : subX "BadNumber" "Misfit" = some false := by decide +kernel
theorem sx0_3 : subX "BadNumber" "Nothing" = some false := by decide +kernel
theorem sx0_4 : subX "BadNumber" "TooMany" = some false := by decide +kernel
theorem ix1 : isX "BadValue" = some true := by decide +kernel
theorem sx1_0 : subX "BadValue" "BadNumber" = some false := by decide +kernel
theorem sx1_1 : subX "BadValue" "BadValue" = some true := by decide +kernel
theorem sx1_2 : subX "BadValue" "Misfit" = some false := by decide +kernel
theorem sx1_3 : subX "BadValue" "Nothing" = some false := by decide +kernel
theorem sx1_4 : subX "BadValue" "TooMany" = some false := by decide +kernel
theorem ix2 : isX "Misfit" = some true := by decide +kernel
theorem sx2_0 : subX "Misfit" "BadNumber" = some false := by decide +kernel
theorem sx2_1 : subX "Misfit" "BadValue" = some false := by decide +kernel
theorem sx2_2 : subX "Misfit" "Misfit" = some true := by decide +kernel
theorem sx2_3 : subX "Misfit" "Nothing" = some false := by decide +kernel
theorem sx2_4 : subX "Misfit" "TooMany" = some false := by decide +kernel
theorem ix3 : isX "Nothing" = some true := by decide +kernel
theorem sx3_0 : subX "Nothing" "BadNumber" = some false := by decide +kernel
theorem sx3_1 : subX "Nothing" "BadValue" = some false := by decide +kernel
theorem sx3_2 : subX "Nothing" "Misfit" = some false := by decide +kernel
theorem sx3_3 : subX "Nothing" "Nothing" = some true := by decide +kernel
theorem sx3_4 : subX "Nothing" "TooMany" = some false := by decide +kernel
theorem ix4 : isX "TooMany" = some true := by decide +kernel
theorem sx4_0 : subX "TooMany" "BadNumber" = some false := by decide +kernel
theorem sx4_1 : subX "TooMany" "BadValue" = some false := by decide +kernel
theorem sx4_2 : subX "TooMany" "Misfit" = some false := by decide +kernel
theorem sx4_3 : subX "TooMany" "Nothing" = some false := by decide +kernel
theorem sx4_4 : subX "TooMany" "TooMany" = some true := by decide +kernel
theorem ne0_1 : ((("BadNumber" : Str) = "BadValue") = False) := by simp only [eq_iff_iff, iff_false]; decide +kernel
theorem ne0_2 : ((("BadNumber" : Str) = "Misfit") = False) := by simp only [eq_iff_iff, iff_false]; decide +kernel
theorem ne0_3 : ((("BadNumber" : Str) = "Nothing") = False) := by simp only [eq_iff_iff, iff_false]; decide +kernel
theorem ne0_4 : ((("BadNumber" : Str) = "TooMany") = False) := by simp only [eq_iff_iff, iff_false]; decide +kernel
theorem ne1_0 : ((("BadValue" : Str) = "BadNumber") = False) := by simp only [eq_iff_iff, iff_false]; decide +kernel
theorem ne1_2 : ((("BadValue" : Str) = "Misfit") = False) := by simp only [eq_iff_iff, iff_false]; decide +kernel
theorem ne1_3 : ((("BadValue" : Str) = "Nothing") = False) := by simp only [eq_iff_iff, iff_false]; decide +kernel
theorem ne1_4 : ((("BadValue" : Str) = "TooMany") = False) := by simp only [eq_iff_iff, iff_false]; decide +kernel
theorem ne2_0 : ((("Misfit" : Str) = "BadNumber") = False) := by simp only [eq_iff_iff, iff_false]; decide +kernel
theorem ne2_1 : ((("Misfit" : Str) = "BadValue") = False) := by simp only [eq_iff_iff, iff_false]; decide +kernel
theorem ne2_3 : ((("Misfit" : Str) = "Nothing") = False) := by simp only [eq_iff_iff, iff_false]; decide +kernel
theorem ne2_4 : ((("Misfit" : Str) = "TooMany") = False) := by simp only [eq_iff_iff, iff_false]; decide +kernel
theorem ne3_0 : ((("Nothing" : Str) = "BadNumber") = False) := by simp only [eq_iff_iff, iff_false]; decide +kernel
theorem ne3_1 : ((("Nothing" : Str) = "BadValue") = False) := by simp only [eq_iff_iff, iff_false]; decide +kernel
theorem ne3_2 : ((("Nothing" : Str) = "Misfit") = False) := by simp only [eq_iff_iff, iff_false]; decide +kernel
theorem ne3_4 : ((("Nothing" : Str) = "TooMany") = False) := by simp only [eq_iff_iff, iff_false]; decide +kernel
theorem ne4_0 : ((("TooMany" : Str) = "BadNumber") = False) := by simp only [eq_iff_iff, iff_false]; decide +kernel
theorem ne4_1 : ((("TooMany" : Str) = "BadValue") = False) := by simp only [eq_iff_iff, iff_false]; decide +kernel
theorem ne4_2 : ((("TooMany" : Str) = "Misfit") = False) := by simp only [eq_iff_iff, iff_false]; decide +kernel
theorem ne4_3 : ((("TooMany" : Str) = "Nothing") = False) := by simp only [eq_iff_iff, iff_false]; decide +kernel
theorem hearX_none (c : Str) (fs : List D) (st : Sto) (h : isX c = none) : hearX c fs st = .bad := by
  unfold hearX
  rw [if_neg (fun e => by subst e; rw [ix4] at h; cases h), if_neg (fun e => by subst e; rw [ix0] at h; cases h), if_neg (fun e => by subst e; rw [ix1] at h; cases h), if_neg (fun e => by subst e; rw [ix2] at h; cases h), if_neg (fun e => by subst e; rw [ix3] at h; cases h)]
theorem hF_law (f c : Addr) (q : Str) (σ : List (Option V)) (γ : List (Option D)) (fE : EF) (st : Sto) : finish (b_l_heard f c q σ fE (startG 8 [.fn f c q σ γ]) st) = hF (fE γ) st := by
  unfold b_l_heard
  cases h : fE γ st with
  | ok d st1 => simp [h, hearR, hF, hearX, partD, ix0, sx0_0, sx0_1, sx0_2, sx0_3, sx0_4, ix1, sx1_0, sx1_1, sx1_2, sx1_3, sx1_4, ix2, sx2_0, sx2_1, sx2_2, sx2_3, sx2_4, ix3, sx3_0, sx3_1, sx3_2, sx3_3, sx3_4, ix4, sx4_0, sx4_1, sx4_2, sx4_3, sx4_4, ne0_1, ne0_2, ne0_3, ne0_4, ne1_0, ne1_2, ne1_3, ne1_4, ne2_0, ne2_1, ne2_3, ne2_4, ne3_0, ne3_1, ne3_2, ne3_4, ne4_0, ne4_1, ne4_2, ne4_3]
  | ex cc fs st1 =>
    rcases isX_cases cc with e | e | e | e | e | e
    iterate 4
      · cases hp : List.lookup ("part" : Str) ((xaX cc).zip fs) <;> subst e <;> simp [hp, h, hearR, hF, hearX, partD, ix0, sx0_0, sx0_1, sx0_2, sx0_3, sx0_4, ix1, sx1_0, sx1_1, sx1_2, sx1_3, sx1_4, ix2, sx2_0, sx2_1, sx2_2, sx2_3, sx2_4, ix3, sx3_0, sx3_1, sx3_2, sx3_3, sx3_4, ix4, sx4_0, sx4_1, sx4_2, sx4_3, sx4_4, ne0_1, ne0_2, ne0_3, ne0_4, ne1_0, ne1_2, ne1_3, ne1_4, ne2_0, ne2_1, ne2_3, ne2_4, ne3_0, ne3_1, ne3_2, ne3_4, ne4_0, ne4_1, ne4_2, ne4_3]
    · subst e
      cases hp : List.lookup ("what" : Str) ((xaX "TooMany").zip fs) <;> cases hq : List.lookup ("most" : Str) ((xaX "TooMany").zip fs) <;> simp [hp, hq, h, hearR, hF, hearX, partD, ix0, sx0_0, sx0_1, sx0_2, sx0_3, sx0_4, ix1, sx1_0, sx1_1, sx1_2, sx1_3, sx1_4, ix2, sx2_0, sx2_1, sx2_2, sx2_3, sx2_4, ix3, sx3_0, sx3_1, sx3_2, sx3_3, sx3_4, ix4, sx4_0, sx4_1, sx4_2, sx4_3, sx4_4, ne0_1, ne0_2, ne0_3, ne0_4, ne1_0, ne1_2, ne1_3, ne1_4, ne2_0, ne2_1, ne2_3, ne2_4, ne3_0, ne3_1, ne3_2, ne3_4, ne4_0, ne4_1, ne4_2, ne4_3]
    · have z := hearX_none cc fs st1 e
      simp [e, h, hearR, hF, z]
  | bad => simp [h, hearR, hF]
end K01
end
section
set_option Elab.async false
set_option linter.all false
set_option maxRecDepth 100000
set_option maxHeartbeats 400000
open PySem PySem.Spec PyProof.Rows L2 LamX FL
namespace K01
section
variable {P : Program} {w : World} {K : PySem.W.Frag} {mg : Str → Option Value} {base : Heap}
theorem sc_is_integer : FnScope ["value"] ["value"] (defScope s_is_integer) := ⟨rfl, rfl, rfl, by decide +kernel, rfl, by decide +kernel, by decide +kernel⟩
theorem ok_is_integer (Fa : Fx P K mg) (B : Bx Fa base) : DefG P w K mg base (gx Fa) 1 Fa.a_is_integer Fa.d_is_integer ["value"] f_is_integer := by
  refine fn_ok2 (b := b_is_integer) (N := ["value"]) Fa.F_is_integer sc_is_integer rfl fun cdv A outer s H E hC hr hgd => ?_
  exact (by exact (by exact fs_one (by exact (fs_ret (by exact (by exact fe_and (by exact (fe_builtin (okIsi ⟨rfl, rfl⟩ ((by exact Fa.subK))) Fa.n_isinstance (by exact (by exact fa_cons (by exact (fe_var 0)) (by exact fa_cons (by exact (fe_tyv Fa.n_int)) fa_nil))))) (by exact fe_one (by exact (fe_not (by exact (fe_builtin (okIsi ⟨rfl, rfl⟩ ((by exact Fa.subK))) Fa.n_isinstance (by exact (by exact fa_cons (by exact (fe_var 0)) (by exact fa_cons (by exact (fe_tyv Fa.n_bool)) fa_nil))))))))))))))
theorem sc_lowest : FnScope ["top", "bottom", "shared"] ["top", "bottom"] (defScope s_lowest) := ⟨rfl, rfl, rfl, by decide +kernel, rfl, by decide +kernel, by decide +kernel⟩
theorem ok_lowest (Fa : Fx P K mg) (B : Bx Fa base) : DefG P w K mg base (gx Fa) 1 Fa.a_lowest Fa.d_lowest ["top", "bottom"] f_lowest := by
  refine fn_ok2 (b := b_lowest) (N := ["top", "bottom", "shared"]) Fa.F_lowest sc_lowest rfl fun cdv A outer s H E hC hr hgd => ?_
  exact (by exact (by exact fs_cons (by exact (fs_set 2 sc_lowest.nd (by exact (fe_bfun okGcd Fa.m_gcd (by exact (by exact fa_cons (by exact (fe_var 0)) (by exact fa_cons (by exact (fe_var 1)) fa_nil))))))) (by exact fs_cons (by exact (fs_if (by exact (ft_cmp blLt (okLt) (by exact (fe_var 1)) (by exact fe_int) rfl)) (by exact (by exact fs_one (by exact (fs_ret (by exact (fe_tup (by exact (by exact fa_cons (by exact (fe_bin (okDiv) (by exact (fe_un okNeg (by exact (fe_var 0)))) (by exact (fe_var 2)))) (by exact fa_cons (by exact (fe_bin (okDiv) (by exact (fe_un okNeg (by exact (fe_var 1)))) (by exact (fe_var 2)))) fa_nil))))))))) fs_nil)) (by exact fs_one (by exact (fs_ret (by exact (fe_tup (by exact (by exact fa_cons (by exact (fe_bin (okDiv) (by exact (fe_var 0)) (by exact (fe_var 2)))) (by exact fa_cons (by exact (fe_bin (okDiv) (by exact (fe_var 1)) (by exact (fe_var 2)))) fa_nil)))))))))))
theorem sc_is_short : FnScope ["number"] ["number"] (defScope s_is_short) := ⟨rfl, rfl, rfl, by decide +kernel, rfl, by decide +kernel, by decide +kernel⟩
theorem ok_is_short (Fa : Fx P K mg) (B : Bx Fa base) : DefG P w K mg base (gx Fa) 1 Fa.a_is_short Fa.d_is_short ["number"] f_is_short := by
  refine fn_ok2 (b := b_is_short) (N := ["number"]) Fa.F_is_short sc_is_short rfl fun cdv A outer s H E hC hr hgd => ?_
  exact (by exact (by exact fs_one (by exact (fs_ret (by exact (fe_cmp (okLt) (by exact (fe_builtin (okAbs) Fa.n_abs (by exact (by exact fa_cons (by exact (fe_var 0)) fa_nil)))) (by exact (fe_type (okIntS B.dig) Fa.n_int (by exact (by exact fa_cons (by exact (fe_bin (okAdd ⟨rfl, rfl⟩) (by exact fe_str) (by exact (fe_bin (okMul) (by exact fe_str) (by exact (fe_glob ⟨rfl, rfl⟩ Fa.m_MOST_FIGURES (Fa.c_MOST_FIGURES _))))))) fa_nil)))) rfl))))))
theorem sc_read_whole : FnScope ["word", "figures", "figure"] ["word"] (defScope s_read_whole) := ⟨rfl, rfl, rfl, by decide +kernel, rfl, by decide +kernel, by decide +kernel⟩
theorem ok_read_whole (Fa : Fx P K mg) (B : Bx Fa base) : DefG P w K mg base (gx Fa) 1 Fa.a_read_whole Fa.d_read_whole ["word"] f_read_whole := by
  refine fn_ok2 (b := b_read_whole) (N := ["word", "figures", "figure"]) Fa.F_read_whole sc_read_whole rfl fun cdv A outer s H E hC hr hgd => ?_
  exact (by exact (by exact fs_cons (by exact (fs_set 1 sc_read_whole.nd (by exact (fe_if (by exact (ft_cmp blEq (okEq ⟨rfl, rfl⟩ (hu_room hr)) (by exact (fe_sl ⟨rfl, rfl⟩ (by exact (fe_var 0)) fo_none (fo_some (by exact fe_int)))) (by exact fe_str) rfl)) (by exact (fe_sl ⟨rfl, rfl⟩ (by exact (fe_var 0)) (fo_some (by exact fe_int)) fo_none)) (by exact (fe_var 0)))))) (by exact fs_cons (by exact (fs_if (by exact (PW.pt (by exact fw_or (by exact (ft_not (by exact (ft_chain (okLe) (okLe) (by exact fe_int) (by exact (fe_builtin (okLen ⟨rfl, rfl⟩) Fa.n_len (by exact (by exact fa_cons (by exact (fe_var 1)) fa_nil)))) (by exact (fe_glob ⟨rfl, rfl⟩ Fa.m_MOST_FIGURES (Fa.c_MOST_FIGURES _))))))) (by exact fw_or1 (by exact (ft_not (by exact (ft_val ⟨rfl, rfl⟩ (by exact (fe_builtin (okAll rfl ⟨rfl, rfl⟩) Fa.n_all (by exact (by exact fa_cons (by exact (fe_comp (own := [("figure", 2)]) rfl sc_read_whole.nd (by rfl) (by decide) (by exact (fi_any ⟨rfl, rfl⟩ (by exact (fe_var 1)))) (fun s H C cl fp => (by exact (fg_nm 2 sc_read_whole.nd))) (fun s H C cl fp => ft_nil) (fun s H C cl fp => (by exact (fe_cmp (okIn ⟨rfl, rfl⟩ (hu_room5 hr)) (by exact (fe_var 2)) (by exact (fe_glob ⟨rfl, rfl⟩ Fa.m_FIGURES (Fa.c_FIGURES _))) rfl))))) fa_nil)))))))))))) (by exact (by exact fs_one (by exact (fs_ret (by exact fe_non))))) fs_nil)) (by exact fs_cons (by exact (fs_if (by exact (PW.pt (by exact fw_and (by exact (ft_cmp blEq (okEq ⟨rfl, rfl⟩ (hu_room hr)) (by exact (fe_ix (okIx ⟨rfl, rfl⟩) (by exact (fe_var 1)) (by exact fe_int))) (by exact fe_str) rfl)) (by exact fw_and1 (by exact (ft_cmp blNe (okNe ⟨rfl, rfl⟩ (hu_room hr)) (by exact (fe_var 0)) (by exact fe_str) rfl)))))) (by exact (by exact fs_one (by exact (fs_ret (by exact fe_non))))) fs_nil)) (by exact fs_one (by exact (fs_ret (by exact (fe_type (okIntS B.dig) Fa.n_int (by exact (by exact fa_cons (by exact (fe_var 0)) fa_nil)))))))))))
theorem sc_is_ratio : FnScope ["value"] ["value"] (defScope s_is_ratio) := ⟨rfl, rfl, rfl, by decide +kernel, rfl, by decide +kernel, by decide +kernel⟩
theorem ok_is_ratio (Fa : Fx P K mg) (B : Bx Fa base) : DefG P w K mg base (gx Fa) 2 Fa.a_is_ratio Fa.d_is_ratio ["value"] f_is_ratio := by
  refine fn_ok2 (b := b_is_ratio) (N := ["value"]) Fa.F_is_ratio sc_is_ratio rfl fun cdv A outer s H E hC hr hgd => ?_
  exact (by exact (by exact fs_cons (by exact (fs_if (by exact (PW.pt (by exact fw_or (by exact (ft_not (by exact (ft_val ⟨rfl, rfl⟩ (by exact (fe_builtin (okIsi ⟨rfl, rfl⟩ ((by exact Fa.subK))) Fa.n_isinstance (by exact (by exact fa_cons (by exact (fe_var 0)) (by exact fa_cons (by exact (fe_tyv Fa.n_tuple)) fa_nil))))))))) (by exact fw_or (by exact (ft_cmp blNe (okNe ⟨rfl, rfl⟩ (hu_room hr)) (by exact (fe_builtin (okLen ⟨rfl, rfl⟩) Fa.n_len (by exact (by exact fa_cons (by exact (fe_var 0)) fa_nil)))) (by exact fe_int) rfl)) (by exact fw_or (by exact (ft_not (by exact (ft_val ⟨rfl, rfl⟩ (by exact (fe_call (ps := ["value"]) (takes_of rfl rfl rfl rfl) (ok_is_integer Fa B) hr (by decide) hgd Fa.m_is_integer Fa.k_is_integer Fa.b_is_integer (by exact (by exact fa_cons (by exact (fe_ix (okIx ⟨rfl, rfl⟩) (by exact (fe_var 0)) (by exact fe_int))) fa_nil)))))))) (by exact fw_or1 (by exact (ft_not (by exact (ft_val ⟨rfl, rfl⟩ (by exact (fe_call (ps := ["value"]) (takes_of rfl rfl rfl rfl) (ok_is_integer Fa B) hr (by decide) hgd Fa.m_is_integer Fa.k_is_integer Fa.b_is_integer (by exact (by exact fa_cons (by exact (fe_ix (okIx ⟨rfl, rfl⟩) (by exact (fe_var 0)) (by exact fe_int))) fa_nil)))))))))))))) (by exact (by exact fs_one (by exact (fs_ret (by exact fe_bl))))) fs_nil)) (by exact fs_one (by exact (fs_ret (by exact (by exact fe_and (by exact (fe_cmp (okGe) (by exact (fe_ix (okIx ⟨rfl, rfl⟩) (by exact (fe_var 0)) (by exact fe_int))) (by exact fe_int) rfl)) (by exact fe_one (by exact (fe_cmp (okEq ⟨rfl, rfl⟩ (hu_room hr)) (by exact (fe_bfun okGcd Fa.m_gcd (by exact (by exact fa_cons (by exact (fe_ix (okIx ⟨rfl, rfl⟩) (by exact (fe_var 0)) (by exact fe_int))) (by exact fa_cons (by exact (fe_ix (okIx ⟨rfl, rfl⟩) (by exact (fe_var 0)) (by exact fe_int))) fa_nil))))) (by exact fe_int) rfl))))))))))
theorem sc_plus : FnScope ["one", "other"] ["one", "other"] (defScope s_plus) := ⟨rfl, rfl, rfl, by decide +kernel, rfl, by decide +kernel, by decide +kernel⟩
theorem ok_plus (Fa : Fx P K mg) (B : Bx Fa base) : DefG P w K mg base (gx Fa) 2 Fa.a_plus Fa.d_plus ["one", "other"] f_plus := by
  refine fn_ok2 (b := b_plus) (N := ["one", "other"]) Fa.F_plus sc_plus rfl fun cdv A outer s H E hC hr hgd => ?_
  exact (by exact (by exact fs_one (by exact (fs_ret (by exact (fe_call (ps := ["top", "bottom"]) (takes_of rfl rfl rfl rfl) (ok_lowest Fa B) hr (by decide) hgd Fa.m_lowest Fa.k_lowest Fa.b_lowest (by exact (by exact fa_cons (by exact (fe_bin (okAdd ⟨rfl, rfl⟩) (by exact (fe_bin (okMul) (by exact (fe_ix (okIx ⟨rfl, rfl⟩) (by exact (fe_var 0)) (by exact fe_int))) (by exact (fe_ix (okIx ⟨rfl, rfl⟩) (by exact (fe_var 1)) (by exact fe_int))))) (by exact (fe_bin (okMul) (by exact (fe_ix (okIx ⟨rfl, rfl⟩) (by exact (fe_var 1)) (by exact fe_int))) (by exact (fe_ix (okIx ⟨rfl, rfl⟩) (by exact (fe_var 0)) (by exact fe_int))))))) (by exact fa_cons (by exact (fe_bin (okMul) (by exact (fe_ix (okIx ⟨rfl, rfl⟩) (by exact (fe_var 0)) (by exact fe_int))) (by exact (fe_ix (okIx ⟨rfl, rfl⟩) (by exact (fe_var 1)) (by exact fe_int))))) fa_nil)))))))))
theorem sc_minus : FnScope ["one", "other"] ["one", "other"] (defScope s_minus) := ⟨rfl, rfl, rfl, by decide +kernel, rfl, by decide +kernel, by decide +kernel⟩
theorem ok_minus (Fa : Fx P K mg) (B : Bx Fa base) : DefG P w K mg base (gx Fa) 2 Fa.a_minus Fa.d_minus ["one", "other"] f_minus := by
  refine fn_ok2 (b := b_minus) (N := ["one", "other"]) Fa.F_minus sc_minus rfl fun cdv A outer s H E hC hr hgd => ?_
  exact (by exact (by exact fs_one (by exact (fs_ret (by exact (fe_call (ps := ["top", "bottom"]) (takes_of rfl rfl rfl rfl) (ok_lowest Fa B) hr (by decide) hgd Fa.m_lowest Fa.k_lowest Fa.b_lowest (by exact (by exact fa_cons (by exact (fe_bin (okSub) (by exact (fe_bin (okMul) (by exact (fe_ix (okIx ⟨rfl, rfl⟩) (by exact (fe_var 0)) (by exact fe_int))) (by exact (fe_ix (okIx ⟨rfl, rfl⟩) (by exact (fe_var 1)) (by exact fe_int))))) (by exact (fe_bin (okMul) (by exact (fe_ix (okIx ⟨rfl, rfl⟩) (by exact (fe_var 1)) (by exact fe_int))) (by exact (fe_ix (okIx ⟨rfl, rfl⟩) (by exact (fe_var 0)) (by exact fe_int))))))) (by exact fa_cons (by exact (fe_bin (okMul) (by exact (fe_ix (okIx ⟨rfl, rfl⟩) (by exact (fe_var 0)) (by exact fe_int))) (by exact (fe_ix (okIx ⟨rfl, rfl⟩) (by exact (fe_var 1)) (by exact fe_int))))) fa_nil)))))))))
theorem sc_negated : FnScope ["one"] ["one"] (defScope s_negated) := ⟨rfl, rfl, rfl, by decide +kernel, rfl, by decide +kernel, by decide +kernel⟩
theorem ok_negated (Fa : Fx P K mg) (B : Bx Fa base) : DefG P w K mg base (gx Fa) 1 Fa.a_negated Fa.d_negated ["one"] f_negated := by
  refine fn_ok2 (b := b_negated) (N := ["one"]) Fa.F_negated sc_negated rfl fun cdv A outer s H E hC hr hgd => ?_
  exact (by exact (by exact fs_one (by exact (fs_ret (by exact (fe_tup (by exact (by exact fa_cons (by exact (fe_un okNeg (by exact (fe_ix (okIx ⟨rfl, rfl⟩) (by exact (fe_var 0)) (by exact fe_int))))) (by exact fa_cons (by exact (fe_ix (okIx ⟨rfl, rfl⟩) (by exact (fe_var 0)) (by exact fe_int))) fa_nil)))))))))
theorem sc_over : FnScope ["one", "other"] ["one", "other"] (defScope s_over) := ⟨rfl, rfl, rfl, by decide +kernel, rfl, by decide +kernel, by decide +kernel⟩
theorem ok_over (Fa : Fx P K mg) (B : Bx Fa base) : DefG P w K mg base (gx Fa) 2 Fa.a_over Fa.d_over ["one", "other"] f_over := by
  refine fn_ok2 (b := b_over) (N := ["one", "other"]) Fa.F_over sc_over rfl fun cdv A outer s H E hC hr hgd => ?_
  exact (by exact (by exact fs_cons (by exact (fs_if (by exact (ft_cmp blEq (okEq ⟨rfl, rfl⟩ (hu_room hr)) (by exact (fe_ix (okIx ⟨rfl, rfl⟩) (by exact (fe_var 1)) (by exact fe_int))) (by exact fe_int) rfl)) (by exact (by exact fs_one (by exact (fs_raise ⟨rfl, rfl⟩ rfl (Fa.x_BadNumber _ rfl rfl rfl) rfl (takes_of rfl rfl rfl rfl) hr (by exact (by exact fa_cons (by exact fe_str) fa_nil)))))) fs_nil)) (by exact fs_one (by exact (fs_ret (by exact (fe_call (ps := ["top", "bottom"]) (takes_of rfl rfl rfl rfl) (ok_lowest Fa B) hr (by decide) hgd Fa.m_lowest Fa.k_lowest Fa.b_lowest (by exact (by exact fa_cons (by exact (fe_bin (okMul) (by exact (fe_ix (okIx ⟨rfl, rfl⟩) (by exact (fe_var 0)) (by exact fe_int))) (by exact (fe_ix (okIx ⟨rfl, rfl⟩) (by exact (fe_var 1)) (by exact fe_int))))) (by exact fa_cons (by exact (fe_bin (okMul) (by exact (fe_ix (okIx ⟨rfl, rfl⟩) (by exact (fe_var 0)) (by exact fe_int))) (by exact (fe_ix (okIx ⟨rfl, rfl⟩) (by exact (fe_var 1)) (by exact fe_int))))) fa_nil))))))))))
theorem sc_less : FnScope ["one", "other"] ["one", "other"] (defScope s_less) := ⟨rfl, rfl, rfl, by decide +kernel, rfl, by decide +kernel, by decide +kernel⟩
theorem ok_less (Fa : Fx P K mg) (B : Bx Fa base) : DefG P w K mg base (gx Fa) 1 Fa.a_less Fa.d_less ["one", "other"] f_less := by
  refine fn_ok2 (b := b_less) (N := ["one", "other"]) Fa.F_less sc_less rfl fun cdv A outer s H E hC hr hgd => ?_
  exact (by exact (by exact fs_one (by exact (fs_ret (by exact (fe_cmp (okLt) (by exact (fe_bin (okMul) (by exact (fe_ix (okIx ⟨rfl, rfl⟩) (by exact (fe_var 0)) (by exact fe_int))) (by exact (fe_ix (okIx ⟨rfl, rfl⟩) (by exact (fe_var 1)) (by exact fe_int))))) (by exact (fe_bin (okMul) (by exact (fe_ix (okIx ⟨rfl, rfl⟩) (by exact (fe_var 1)) (by exact fe_int))) (by exact (fe_ix (okIx ⟨rfl, rfl⟩) (by exact (fe_var 0)) (by exact fe_int))))) rfl))))))
theorem sc_simplest_above : FnScope ["low", "high", "parts", "whole", "rest", "later", "found", "part"] ["low", "high"] (defScope s_simplest_above) := ⟨rfl, rfl, rfl, by decide +kernel, rfl, by decide +kernel, by decide +kernel⟩
theorem ok_simplest_above (Fa : Fx P K mg) (B : Bx Fa base) : DefG P w K mg base (gx Fa) 3 Fa.a_simplest_above Fa.d_simplest_above ["low", "high"] f_simplest_above := by
  refine fn_ok2 (b := b_simplest_above) (N := ["low", "high", "parts", "whole", "rest", "later", "found", "part"]) Fa.F_simplest_above sc_simplest_above rfl fun cdv A outer s H E hC hr hgd => ?_
  exact (by exact (by exact fs_cons (by exact (fs_par2 2 3 rfl sc_simplest_above.nd (by exact (by exact fa_cons (by exact (fe_cel fa_nil)) (by exact fa_cons (by exact (fe_bin (okDiv) (by exact (fe_ix (okIx ⟨rfl, rfl⟩) (by exact (fe_var 0)) (by exact fe_int))) (by exact (fe_ix (okIx ⟨rfl, rfl⟩) (by exact (fe_var 0)) (by exact fe_int))))) fa_nil))))) (by exact fs_cons (by exact (fs_while (fun _ _ => 10000) (passes_of rfl) (by exact (PW.pt (by exact fw_and (by exact (ft_cmp blNotN (okNotN) (by exact (fe_var 1)) (by exact fe_non) rfl)) (by exact fw_and1 (by exact (ft_not (by exact (ft_val ⟨rfl, rfl⟩ (by exact (fe_call (ps := ["one", "other"]) (takes_of rfl rfl rfl rfl) (ok_less Fa B) hr (by decide) hgd Fa.m_less Fa.k_less Fa.b_less (by exact (by exact fa_cons (by exact (fe_tup (by exact (by exact fa_cons (by exact (fe_bin (okAdd ⟨rfl, rfl⟩) (by exact (fe_var 3)) (by exact fe_int))) (by exact fa_cons (by exact fe_int) fa_nil))))) (by exact fa_cons (by exact (fe_var 1)) fa_nil))))))))))))) (by exact (by exact fs_cons (by exact (fs_expr (by exact (fe_append ⟨rfl, rfl⟩ (by exact (fe_var 2)) (by exact (by exact fa_cons (by exact (fe_var 3)) fa_nil)))))) (by exact fs_cons (by exact (fs_set 4 sc_simplest_above.nd (by exact (fe_bin (okSub) (by exact (fe_ix (okIx ⟨rfl, rfl⟩) (by exact (fe_var 0)) (by exact fe_int))) (by exact (fe_bin (okMul) (by exact (fe_var 3)) (by exact (fe_ix (okIx ⟨rfl, rfl⟩) (by exact (fe_var 0)) (by exact fe_int))))))))) (by exact fs_cons (by exact (fs_set 5 sc_simplest_above.nd (by exact (fe_if (by exact (ft_cmp blEq (okEq ⟨rfl, rfl⟩ (hu_room hr)) (by exact (fe_var 4)) (by exact fe_int) rfl)) (by exact fe_non) (by exact (fe_call (ps := ["top", "bottom"]) (takes_of rfl rfl rfl rfl) (ok_lowest Fa B) hr (by decide) hgd Fa.m_lowest Fa.k_lowest Fa.b_lowest (by exact (by exact fa_cons (by exact (fe_ix (okIx ⟨rfl, rfl⟩) (by exact (fe_var 0)) (by exact fe_int))) (by exact fa_cons (by exact (fe_var 4)) fa_nil))))))))) (by exact fs_cons (by exact (fs_par2 0 1 rfl sc_simplest_above.nd (by exact (by exact fa_cons (by exact (fe_call (ps := ["one", "other"]) (takes_of rfl rfl rfl rfl) (ok_over Fa B) hr (by decide) hgd Fa.m_over Fa.k_over Fa.b_over (by exact (by exact fa_cons (by exact (fe_glob ⟨rfl, rfl⟩ Fa.m_ONE (Fa.c_ONE _))) (by exact fa_cons (by exact (fe_call (ps := ["one", "other"]) (takes_of rfl rfl rfl rfl) (ok_minus Fa B) hr (by decide) hgd Fa.m_minus Fa.k_minus Fa.b_minus (by exact (by exact fa_cons (by exact (fe_var 1)) (by exact fa_cons (by exact (fe_tup (by exact (by exact fa_cons (by exact (fe_var 3)) (by exact fa_cons (by exact fe_int) fa_nil))))) fa_nil))))) fa_nil))))) (by exact fa_cons (by exact (fe_var 5)) fa_nil))))) (by exact fs_one (by exact (fs_set 3 sc_simplest_above.nd (by exact (fe_bin (okDiv) (by exact (fe_ix (okIx ⟨rfl, rfl⟩) (by exact (fe_var 0)) (by exact fe_int))) (by exact (fe_ix (okIx ⟨rfl, rfl⟩) (by exact (fe_var 0)) (by exact fe_int))))))))))))))) (by exact fs_cons (by exact (fs_set 6 sc_simplest_above.nd (by exact (fe_tup (by exact (by exact fa_cons (by exact (fe_bin (okAdd ⟨rfl, rfl⟩) (by exact (fe_var 3)) (by exact fe_int))) (by exact fa_cons (by exact fe_int) fa_nil))))))) (by exact fs_cons (by exact (fs_for (passes_of rfl) rfl (by exact (fi_any ⟨rfl, rfl⟩ (by exact (fe_rev ⟨rfl, rfl⟩ (by exact (fe_var 2)))))) (by exact (fg_nm 7 sc_simplest_above.nd)) (by exact (by exact fs_one (by exact (fs_set 6 sc_simplest_above.nd (by exact (fe_call (ps := ["one", "other"]) (takes_of rfl rfl rfl rfl) (ok_plus Fa B) hr (by decide) hgd Fa.m_plus Fa.k_plus Fa.b_plus (by exact (by exact fa_cons (by exact (fe_tup (by exact (by exact fa_cons (by exact (fe_var 7)) (by exact fa_cons (by exact fe_int) fa_nil))))) (by exact fa_cons (by exact (fe_call (ps := ["one", "other"]) (takes_of rfl rfl rfl rfl) (ok_over Fa B) hr (by decide) hgd Fa.m_over Fa.k_over Fa.b_over (by exact (by exact fa_cons (by exact (fe_glob ⟨rfl, rfl⟩ Fa.m_ONE (Fa.c_ONE _))) (by exact fa_cons (by exact (fe_var 6)) fa_nil))))) fa_nil))))))))))) (by exact fs_one (by exact (fs_ret (by exact (fe_var 6))))))))))
theorem sc_simplest : FnScope ["low", "high"] ["low", "high"] (defScope s_simplest) := ⟨rfl, rfl, rfl, by decide +kernel, rfl, by decide +kernel, by decide +kernel⟩
theorem ok_simplest (Fa : Fx P K mg) (B : Bx Fa base) : DefG P w K mg base (gx Fa) 4 Fa.a_simplest Fa.d_simplest ["low", "high"] f_simplest := by
  refine fn_ok2 (b := b_simplest) (N := ["low", "high"]) Fa.F_simplest sc_simplest rfl fun cdv A outer s H E hC hr hgd => ?_
  exact (by exact (by exact fs_cons (by exact (fs_if (by exact (ft_not (by exact (ft_val ⟨rfl, rfl⟩ (by exact (fe_call (ps := ["one", "other"]) (takes_of rfl rfl rfl rfl) (ok_less Fa B) hr (by decide) hgd Fa.m_less Fa.k_less Fa.b_less (by exact (by exact fa_cons (by exact (fe_var 0)) (by exact fa_cons (by exact (fe_var 1)) fa_nil))))))))) (by exact (by exact fs_one (by exact (fs_raise ⟨rfl, rfl⟩ rfl (Fa.x_Misfit _ rfl rfl rfl) rfl (takes_of rfl rfl rfl rfl) hr (by exact (by exact fa_cons (by exact fe_str) fa_nil)))))) fs_nil)) (by exact fs_cons (by exact (fs_if (by exact (PW.pt (by exact fw_and (by exact (ft_val ⟨rfl, rfl⟩ (by exact (fe_call (ps := ["one", "other"]) (takes_of rfl rfl rfl rfl) (ok_less Fa B) hr (by decide) hgd Fa.m_less Fa.k_less Fa.b_less (by exact (by exact fa_cons (by exact (fe_var 0)) (by exact fa_cons (by exact (fe_glob ⟨rfl, rfl⟩ Fa.m_ZERO (Fa.c_ZERO _))) fa_nil))))))) (by exact fw_and1 (by exact (ft_val ⟨rfl, rfl⟩ (by exact (fe_call (ps := ["one", "other"]) (takes_of rfl rfl rfl rfl) (ok_less Fa B) hr (by decide) hgd Fa.m_less Fa.k_less Fa.b_less (by exact (by exact fa_cons (by exact (fe_glob ⟨rfl, rfl⟩ Fa.m_ZERO (Fa.c_ZERO _))) (by exact fa_cons (by exact (fe_var 1)) fa_nil))))))))))) (by exact (by exact fs_one (by exact (fs_ret (by exact (fe_glob ⟨rfl, rfl⟩ Fa.m_ZERO (Fa.c_ZERO _))))))) fs_nil)) (by exact fs_cons (by exact (fs_if (by exact (ft_not (by exact (ft_val ⟨rfl, rfl⟩ (by exact (fe_call (ps := ["one", "other"]) (takes_of rfl rfl rfl rfl) (ok_less Fa B) hr (by decide) hgd Fa.m_less Fa.k_less Fa.b_less (by exact (by exact fa_cons (by exact (fe_var 0)) (by exact fa_cons (by exact (fe_glob ⟨rfl, rfl⟩ Fa.m_ZERO (Fa.c_ZERO _))) fa_nil))))))))) (by exact (by exact fs_one (by exact (fs_ret (by exact (fe_call (ps := ["low", "high"]) (takes_of rfl rfl rfl rfl) (ok_simplest_above Fa B) hr (by decide) hgd Fa.m_simplest_above Fa.k_simplest_above Fa.b_simplest_above (by exact (by exact fa_cons (by exact (fe_var 0)) (by exact fa_cons (by exact (fe_var 1)) fa_nil))))))))) fs_nil)) (by exact fs_one (by exact (fs_ret (by exact (fe_call (ps := ["one"]) (takes_of rfl rfl rfl rfl) (ok_negated Fa B) hr (by decide) hgd Fa.m_negated Fa.k_negated Fa.b_negated (by exact (by exact fa_cons (by exact (fe_call (ps := ["low", "high"]) (takes_of rfl rfl rfl rfl) (ok_simplest_above Fa B) hr (by decide) hgd Fa.m_simplest_above Fa.k_simplest_above Fa.b_simplest_above (by exact (by exact fa_cons (by exact (fe_call (ps := ["one"]) (takes_of rfl rfl rfl rfl) (ok_negated Fa B) hr (by decide) hgd Fa.m_negated Fa.k_negated Fa.b_negated (by exact (by exact fa_cons (by exact (fe_var 1)) fa_nil)))) (by exact fa_cons (by exact (fe_call (ps := ["one"]) (takes_of rfl rfl rfl rfl) (ok_negated Fa B) hr (by decide) hgd Fa.m_negated Fa.k_negated Fa.b_negated (by exact (by exact fa_cons (by exact (fe_var 0)) fa_nil)))) fa_nil))))) fa_nil)))))))))))
theorem sc_ratio_text : FnScope ["one"] ["one"] (defScope s_ratio_text) := ⟨rfl, rfl, rfl, by decide +kernel, rfl, by decide +kernel, by decide +kernel⟩
theorem ok_ratio_text (Fa : Fx P K mg) (B : Bx Fa base) : DefG P w K mg base (gx Fa) 2 Fa.a_ratio_text Fa.d_ratio_text ["one"] f_ratio_text := by
  refine fn_ok2 (b := b_ratio_text) (N := ["one"]) Fa.F_ratio_text sc_ratio_text rfl fun cdv A outer s H E hC hr hgd => ?_
  exact (by exact (by exact fs_cons (by exact (fs_if (by exact (PW.pt (by exact fw_or (by exact (ft_not (by exact (ft_val ⟨rfl, rfl⟩ (by exact (fe_call (ps := ["number"]) (takes_of rfl rfl rfl rfl) (ok_is_short Fa B) hr (by decide) hgd Fa.m_is_short Fa.k_is_short Fa.b_is_short (by exact (by exact fa_cons (by exact (fe_ix (okIx ⟨rfl, rfl⟩) (by exact (fe_var 0)) (by exact fe_int))) fa_nil)))))))) (by exact fw_or1 (by exact (ft_not (by exact (ft_val ⟨rfl, rfl⟩ (by exact (fe_call (ps := ["number"]) (takes_of rfl rfl rfl rfl) (ok_is_short Fa B) hr (by decide) hgd Fa.m_is_short Fa.k_is_short Fa.b_is_short (by exact (by exact fa_cons (by exact (fe_ix (okIx ⟨rfl, rfl⟩) (by exact (fe_var 0)) (by exact fe_int))) fa_nil)))))))))))) (by exact (by exact fs_one (by exact (fs_raise ⟨rfl, rfl⟩ rfl (Fa.x_TooMany _ rfl rfl rfl) rfl (takes_of rfl rfl rfl rfl) hr (by exact (by exact fa_cons (by exact fe_str) (by exact fa_cons (by exact (fe_glob ⟨rfl, rfl⟩ Fa.m_MOST_FIGURES (Fa.c_MOST_FIGURES _))) fa_nil))))))) fs_nil)) (by exact fs_one (by exact (fs_ret (by exact (fe_if (by exact (ft_cmp blEq (okEq ⟨rfl, rfl⟩ (hu_room hr)) (by exact (fe_ix (okIx ⟨rfl, rfl⟩) (by exact (fe_var 0)) (by exact fe_int))) (by exact fe_int) rfl)) (by exact (fe_type (okStrW rfl B.dig) Fa.n_str (by exact (by exact fa_cons (by exact (fe_ix (okIx ⟨rfl, rfl⟩) (by exact (fe_var 0)) (by exact fe_int))) fa_nil)))) (by exact (fe_bin (okAdd ⟨rfl, rfl⟩) (by exact (fe_bin (okAdd ⟨rfl, rfl⟩) (by exact (fe_type (okStrW rfl B.dig) Fa.n_str (by exact (by exact fa_cons (by exact (fe_ix (okIx ⟨rfl, rfl⟩) (by exact (fe_var 0)) (by exact fe_int))) fa_nil)))) (by exact fe_str))) (by exact (fe_type (okStrW rfl B.dig) Fa.n_str (by exact (by exact fa_cons (by exact (fe_ix (okIx ⟨rfl, rfl⟩) (by exact (fe_var 0)) (by exact fe_int))) fa_nil)))))))))))))
theorem sc_read_ratio : FnScope ["word", "parts", "numbers", "part"] ["word"] (defScope s_read_ratio) := ⟨rfl, rfl, rfl, by decide +kernel, rfl, by decide +kernel, by decide +kernel⟩
theorem ok_read_ratio (Fa : Fx P K mg) (B : Bx Fa base) : DefG P w K mg base (gx Fa) 2 Fa.a_read_ratio Fa.d_read_ratio ["word"] f_read_ratio := by
  refine fn_ok2 (b := b_read_ratio) (N := ["word", "parts", "numbers", "part"]) Fa.F_read_ratio sc_read_ratio rfl fun cdv A outer s H E hC hr hgd => ?_
  exact (by exact (by exact fs_cons (by exact (fs_if (by exact (ft_not (by exact (ft_val ⟨rfl, rfl⟩ (by exact (fe_builtin (okIsi ⟨rfl, rfl⟩ ((by exact Fa.subK))) Fa.n_isinstance (by exact (by exact fa_cons (by exact (fe_var 0)) (by exact fa_cons (by exact (fe_tyv Fa.n_str)) fa_nil))))))))) (by exact (by exact fs_one (by exact (fs_ret (by exact fe_non))))) fs_nil)) (by exact fs_cons (by exact (fs_set 1 sc_read_ratio.nd (by exact (fe_split (by exact (fe_var 0)) (by exact fe_str))))) (by exact fs_cons (by exact (fs_setComp 2 (own := [("part", 3)]) rfl sc_read_ratio.nd (by rfl) (by decide) (by exact (fi_any ⟨rfl, rfl⟩ (by exact (fe_var 1)))) (fun s H C cl fp => (by exact (fg_nm 3 sc_read_ratio.nd))) (fun s H C cl fp => ft_nil) (fun s H C cl fp => (by exact (fe_call (ps := ["word"]) LamX.takes0 (ok_read_whole Fa B) hr (by decide) hgd Fa.m_read_whole Fa.k_read_whole Fa.b_read_whole (by exact (by exact fa_cons (by exact (fe_var 3)) fa_nil))))))) (by exact fs_cons (by exact (fs_if (by exact (PW.pt (by exact fw_or (by exact (ft_cmp blGt (okGt) (by exact (fe_builtin (okLen ⟨rfl, rfl⟩) Fa.n_len (by exact (by exact fa_cons (by exact (fe_var 1)) fa_nil)))) (by exact fe_int) rfl)) (by exact fw_or1 (by exact (ft_cmp blIn (okIn ⟨rfl, rfl⟩ (hu_room5 hr)) (by exact fe_non) (by exact (fe_var 2)) rfl)))))) (by exact (by exact fs_one (by exact (fs_ret (by exact fe_non))))) fs_nil)) (by exact fs_cons (by exact (fs_if (by exact (ft_cmp blEq (okEq ⟨rfl, rfl⟩ (hu_room hr)) (by exact (fe_builtin (okLen ⟨rfl, rfl⟩) Fa.n_len (by exact (by exact fa_cons (by exact (fe_var 1)) fa_nil)))) (by exact fe_int) rfl)) (by exact (by exact fs_one (by exact (fs_ret (by exact (fe_tup (by exact (by exact fa_cons (by exact (fe_ix (okIx ⟨rfl, rfl⟩) (by exact (fe_var 2)) (by exact fe_int))) (by exact fa_cons (by exact fe_int) fa_nil))))))))) fs_nil)) (by exact fs_cons (by exact (fs_if (by exact (PW.pt (by exact fw_or (by exact (ft_cmp blLt (okLt) (by exact (fe_ix (okIx ⟨rfl, rfl⟩) (by exact (fe_var 2)) (by exact fe_int))) (by exact fe_int) rfl)) (by exact fw_or1 (by exact (ft_cmp blNe (okNe ⟨rfl, rfl⟩ (hu_room hr)) (by exact (fe_bfun okGcd Fa.m_gcd (by exact (by exact fa_cons (by exact (fe_ix (okIx ⟨rfl, rfl⟩) (by exact (fe_var 2)) (by exact fe_int))) (by exact fa_cons (by exact (fe_ix (okIx ⟨rfl, rfl⟩) (by exact (fe_var 2)) (by exact fe_int))) fa_nil))))) (by exact fe_int) rfl)))))) (by exact (by exact fs_one (by exact (fs_ret (by exact fe_non))))) fs_nil)) (by exact fs_one (by exact (fs_ret (by exact (fe_tup (by exact (by exact fa_cons (by exact (fe_ix (okIx ⟨rfl, rfl⟩) (by exact (fe_var 2)) (by exact fe_int))) (by exact fa_cons (by exact (fe_ix (okIx ⟨rfl, rfl⟩) (by exact (fe_var 2)) (by exact fe_int))) fa_nil)))))))))))))))
theorem sc_l_pen : FnScope ["script", "cell"] ["script"] (defScope s_l_pen) := ⟨rfl, rfl, rfl, by decide +kernel, rfl, by decide +kernel, by decide +kernel⟩
theorem ok_l_pen (Fa : Fx P K mg) (B : Bx Fa base) : DefG P w K mg base (gx Fa) 1 Fa.a_l_pen Fa.d_l_pen ["script"] f_l_pen := by
  refine fn_ok2 (b := b_l_pen) (N := ["script", "cell"]) Fa.F_l_pen sc_l_pen rfl fun cdv A outer s H E hC hr hgd => ?_
  exact (by exact (by exact fs_one (by exact (fs_ret (by exact (fe_cel (by exact (by exact fa_cons (by exact (fe_comp (own := [("cell", 1)]) rfl sc_l_pen.nd (by rfl) (by decide) (by exact (fi_any ⟨rfl, rfl⟩ (by exact (fe_sl ⟨rfl, rfl⟩ (by exact (fe_var 0)) fo_none (fo_some (by exact fe_int)))))) (fun s H C cl fp => (by exact (fg_nm 1 sc_l_pen.nd))) (fun s H C cl fp => ft_nil) (fun s H C cl fp => (by exact (fe_type (okIntS B.dig) Fa.n_int (by exact (by exact fa_cons (by exact (fe_var 1)) fa_nil))))))) (by exact fa_cons (by exact fe_int) (by exact fa_cons (by exact fe_int) fa_nil))))))))))
theorem sc_l_draw : FnScope ["pen", "many", "rest", "turn", "cell", "mixed"] ["pen", "many"] (defScope s_l_draw) := ⟨rfl, rfl, rfl, by decide +kernel, rfl, by decide +kernel, by decide +kernel⟩
theorem ok_l_draw (Fa : Fx P K mg) (B : Bx Fa base) : DefG P w K mg base (gx Fa) 1 Fa.a_l_draw Fa.d_l_draw ["pen", "many"] f_l_draw := by
  refine fn_ok2 (b := b_l_draw) (N := ["pen", "many", "rest", "turn", "cell", "mixed"]) Fa.F_l_draw sc_l_draw rfl fun cdv A outer s H E hC hr hgd => ?_
  exact (by exact (by exact fs_cons (by exact (fs_if (by exact (ft_cmp blGt (okGt) (by exact (fe_ix (okIx ⟨rfl, rfl⟩) (by exact (fe_var 0)) (by exact fe_int))) (by exact fe_int) rfl)) (by exact (by exact fs_cons (by exact (fs_set 2 sc_l_draw.nd (by exact (fe_type (okIntS B.dig) Fa.n_int (by exact (by exact fa_cons (by exact (fe_ix (okIx ⟨rfl, rfl⟩) (by exact (fe_var 0)) (by exact fe_int))) fa_nil)))))) (by exact fs_cons (by exact (fs_setix (by exact (fe_bin (okDiv) (by exact (fe_var 2)) (by exact (fe_var 1)))) (by exact (fe_var 0)) (by exact fe_int))) (by exact fs_one (by exact (fs_ret (by exact (fe_bin (okMod) (by exact (fe_type (okIntS B.dig) Fa.n_int (by exact (by exact fa_cons (by exact (fe_var 2)) fa_nil)))) (by exact (fe_var 1)))))))))) fs_nil)) (by exact fs_cons (by exact (fs_set 3 sc_l_draw.nd (by exact (fe_ix (okIx ⟨rfl, rfl⟩) (by exact (fe_var 0)) (by exact fe_int))))) (by exact fs_cons (by exact (fs_setix (by exact (fe_bin (okAdd ⟨rfl, rfl⟩) (by exact (fe_var 3)) (by exact fe_int))) (by exact (fe_var 0)) (by exact fe_int))) (by exact fs_cons (by exact (fs_set 4 sc_l_draw.nd (by exact (fe_bin (okAdd ⟨rfl, rfl⟩) (by exact (fe_bin (okMul) (by exact fe_int) (by exact (fe_var 3)))) (by exact fe_int))))) (by exact fs_cons (by exact (fs_if (by exact (ft_cmp blNe (okNe ⟨rfl, rfl⟩ (hu_room hr)) (by exact (fe_ix (okIx ⟨rfl, rfl⟩) (by exact (fe_var 0)) (by exact fe_int))) (by exact (fe_lst fa_nil)) rfl)) (by exact (by exact fs_one (by exact (fs_set 4 sc_l_draw.nd (by exact (fe_ix (okIx ⟨rfl, rfl⟩) (by exact (fe_ix (okIx ⟨rfl, rfl⟩) (by exact (fe_var 0)) (by exact fe_int))) (by exact (fe_bin (okMod) (by exact (fe_type (okIntS B.dig) Fa.n_int (by exact (by exact fa_cons (by exact (fe_var 3)) fa_nil)))) (by exact (fe_builtin (okLen ⟨rfl, rfl⟩) Fa.n_len (by exact (by exact fa_cons (by exact (fe_ix (okIx ⟨rfl, rfl⟩) (by exact (fe_var 0)) (by exact fe_int))) fa_nil)))))))))))) fs_nil)) (by exact fs_cons (by exact (fs_if (by exact (PW.pt (by exact fw_and (by exact (ft_cmp blLt (okLt) (by exact (fe_var 3)) (by exact (fe_builtin (okLen ⟨rfl, rfl⟩) Fa.n_len (by exact (by exact fa_cons (by exact (fe_ix (okIx ⟨rfl, rfl⟩) (by exact (fe_var 0)) (by exact fe_int))) fa_nil)))) rfl)) (by exact fw_and1 (by exact (ft_cmp blGe (okGe) (by exact (fe_builtin (okAbs) Fa.n_abs (by exact (by exact fa_cons (by exact (fe_var 4)) fa_nil)))) (by exact (fe_bin (okPow) (by exact fe_int) (by exact fe_int))) rfl)))))) (by exact (by exact fs_cons (by exact (fs_set 2 sc_l_draw.nd (by exact (fe_bin (okAdd ⟨rfl, rfl⟩) (by exact (fe_bin (okMul) (by exact fe_int) (by exact (fe_bin (okSub) (by exact (fe_builtin (okAbs) Fa.n_abs (by exact (by exact fa_cons (by exact (fe_var 4)) fa_nil)))) (by exact (fe_bin (okPow) (by exact fe_int) (by exact fe_int))))))) (by exact (fe_type (okIntS B.dig) Fa.n_int (by exact (by exact fa_cons (by exact (fe_cmp (okLt) (by exact (fe_var 4)) (by exact fe_int) rfl)) fa_nil)))))))) (by exact fs_cons (by exact (fs_setix (by exact (fe_bin (okDiv) (by exact (fe_type (okIntS B.dig) Fa.n_int (by exact (by exact fa_cons (by exact (fe_var 2)) fa_nil)))) (by exact (fe_var 1)))) (by exact (fe_var 0)) (by exact fe_int))) (by exact fs_one (by exact (fs_ret (by exact (fe_bin (okMod) (by exact (fe_type (okIntS B.dig) Fa.n_int (by exact (by exact fa_cons (by exact (fe_var 2)) fa_nil)))) (by exact (fe_var 1)))))))))) fs_nil)) (by exact fs_cons (by exact (fs_set 5 sc_l_draw.nd (by exact (fe_bin (okMod) (by exact (fe_type (okIntS B.dig) Fa.n_int (by exact (by exact fa_cons (by exact (fe_bin (okPow) (by exact (fe_bin (okAdd ⟨rfl, rfl⟩) (by exact (fe_bin (okAdd ⟨rfl, rfl⟩) (by exact (fe_bin (okMod) (by exact (fe_type (okIntS B.dig) Fa.n_int (by exact (by exact fa_cons (by exact (fe_var 4)) fa_nil)))) (by exact fe_int))) (by exact (fe_bin (okMul) (by exact fe_int) (by exact (fe_var 3)))))) (by exact fe_int))) (by exact fe_int))) fa_nil)))) (by exact fe_int))))) (by exact fs_cons (by exact (fs_set 5 sc_l_draw.nd (by exact (fe_bin (okMod) (by exact (fe_type (okIntS B.dig) Fa.n_int (by exact (by exact fa_cons (by exact (fe_bin (okPow) (by exact (fe_bin (okAdd ⟨rfl, rfl⟩) (by exact (fe_bin (okAdd ⟨rfl, rfl⟩) (by exact (fe_bin (okMul) (by exact (fe_var 5)) (by exact (fe_bin (okAdd ⟨rfl, rfl⟩) (by exact (fe_bin (okMul) (by exact fe_int) (by exact (fe_var 3)))) (by exact fe_int))))) (by exact (fe_bin (okMul) (by exact (fe_bin (okMul) (by exact fe_int) (by exact (fe_var 3)))) (by exact (fe_var 3)))))) (by exact fe_int))) (by exact fe_int))) fa_nil)))) (by exact fe_int))))) (by exact fs_one (by exact (fs_ret (by exact (fe_bin (okMod) (by exact (fe_type (okIntS B.dig) Fa.n_int (by exact (by exact fa_cons (by exact (fe_bin (okDiv) (by exact (fe_var 5)) (by exact fe_int))) fa_nil)))) (by exact (fe_var 1))))))))))))))))
theorem sc_l_pick : FnScope ["pen", "some"] ["pen", "some"] (defScope s_l_pick) := ⟨rfl, rfl, rfl, by decide +kernel, rfl, by decide +kernel, by decide +kernel⟩
theorem ok_l_pick (Fa : Fx P K mg) (B : Bx Fa base) : DefG P w K mg base (gx Fa) 2 Fa.a_l_pick Fa.d_l_pick ["pen", "some"] f_l_pick := by
  refine fn_ok2 (b := b_l_pick) (N := ["pen", "some"]) Fa.F_l_pick sc_l_pick rfl fun cdv A outer s H E hC hr hgd => ?_
  exact (by exact (by exact fs_one (by exact (fs_ret (by exact (fe_ix (okIx ⟨rfl, rfl⟩) (by exact (fe_var 1)) (by exact (fe_call (ps := ["pen", "many"]) (takes_of rfl rfl rfl rfl) (ok_l_draw Fa B) hr (by decide) hgd Fa.m_l_draw Fa.k_l_draw Fa.b_l_draw (by exact (by exact fa_cons (by exact (fe_var 0)) (by exact fa_cons (by exact (fe_builtin (okLen ⟨rfl, rfl⟩) Fa.n_len (by exact (by exact fa_cons (by exact (fe_var 1)) fa_nil)))) fa_nil)))))))))))
theorem sc_l_heard : FnScope ["ask", "found", "caught", "error", "kinds", "words", "word", "is_it"] ["ask"] (defScope s_l_heard) := ⟨rfl, rfl, rfl, by decide +kernel, rfl, by decide +kernel, by decide +kernel⟩
theorem ok_heard (Fa : Fx P K mg) (B : Bx Fa base) (k : Nat) (hk : 0 ≤ k + 1) : HeardOk P w K mg base (gx Fa) (k + 1) Fa.a_l_heard "_law_heard" "ask" hF := by
  obtain ⟨oc, od, kV, doc, pm, an, cdv, ct, osl, e1, lk, hcd, _⟩ := Fa.F_l_heard
  have hb := Fa.b_l_heard
  rw [e1] at lk hb
  refine ⟨oc, od, osl, defArgs s_l_heard, defBody s_l_heard, defScope s_l_heard, .none, kV, doc, pm, cdv, ct, an, ["ask", "found", "caught", "error", "kinds", "words", "word", "is_it"], b_l_heard, lk, hcd, hb, sc_l_heard, rfl, Or.inl rfl, fun f c q σ γ fE st => ?_, fun A outer s H E f c q σ fE hr hgd act => ?_⟩
  · exact hF_law f c q σ γ fE st
  · exact (by exact (by exact fs_cons (by exact (fs_asg (by exact (fe_tup (by exact (by exact fa_cons (by exact fe_non) (by exact fa_cons (by exact fe_non) fa_nil))))) (by exact (fg_tup ⟨rfl, rfl⟩ rfl (by exact fg_cons (by exact (fg_nm 1 sc_l_heard.nd)) (by exact fg_cons (by exact (fg_nm 2 sc_l_heard.nd)) fg_nil)))))) (by exact fs_cons (by exact (fs_keep (c := .ref Fa.C_WorldError) ⟨rfl, rfl⟩ (by exact Fa.isK) (takes_of rfl rfl rfl rfl) sc_l_heard.nd (i := 3) (j := 2) rfl rfl ⟨rfl, by decide, .inl Fa.m_WorldError⟩ (fun W pn xe tk _ => (by exact (by exact fs_one (by exact (fs_set 1 sc_l_heard.nd (by exact (act W _ _ _ _ tk))))))))) (by exact fs_cons (by exact (fs_if (by exact (ft_cmp blIsN (okIsN) (by exact (fe_var 2)) (by exact fe_non) rfl)) (by exact (by exact fs_one (by exact (fs_ret (by exact (fe_lst (by exact (by exact fa_cons (by exact (fe_var 1)) fa_nil)))))))) fs_nil)) (by exact fs_cons (by exact (fs_if (by exact (ft_val ⟨rfl, rfl⟩ (by exact (fe_builtin (okIsi ⟨rfl, rfl⟩ ((by exact Fa.subK))) Fa.n_isinstance (by exact (by exact fa_cons (by exact (fe_var 2)) (by exact fa_cons (by exact (fe_clsv ⟨rfl, rfl⟩ Fa.m_TooMany)) fa_nil))))))) (by exact (by exact fs_one (by exact (fs_ret (by exact (fe_tup (by exact (by exact fa_cons (by exact fe_str) (by exact fa_cons (by exact (fe_xattr ⟨rfl, rfl⟩ (by exact fun c C => Fa.xfK _ c C) (by exact (fe_var 2)))) (by exact fa_cons (by exact (fe_xattr ⟨rfl, rfl⟩ (by exact fun c C => Fa.xfK _ c C) (by exact (fe_var 2)))) fa_nil)))))))))) fs_nil)) (by exact fs_cons (by exact (fs_set 4 sc_l_heard.nd (by exact (fe_lst (by exact (by exact fa_cons (by exact (fe_tup (by exact (by exact fa_cons (by exact fe_str) (by exact fa_cons (by exact (fe_builtin (okIsi ⟨rfl, rfl⟩ ((by exact Fa.subK))) Fa.n_isinstance (by exact (by exact fa_cons (by exact (fe_var 2)) (by exact fa_cons (by exact (fe_clsv ⟨rfl, rfl⟩ Fa.m_BadNumber)) fa_nil))))) fa_nil))))) (by exact fa_cons (by exact (fe_tup (by exact (by exact fa_cons (by exact fe_str) (by exact fa_cons (by exact (fe_builtin (okIsi ⟨rfl, rfl⟩ ((by exact Fa.subK))) Fa.n_isinstance (by exact (by exact fa_cons (by exact (fe_var 2)) (by exact fa_cons (by exact (fe_clsv ⟨rfl, rfl⟩ Fa.m_BadValue)) fa_nil))))) fa_nil))))) (by exact fa_cons (by exact (fe_tup (by exact (by exact fa_cons (by exact fe_str) (by exact fa_cons (by exact (fe_builtin (okIsi ⟨rfl, rfl⟩ ((by exact Fa.subK))) Fa.n_isinstance (by exact (by exact fa_cons (by exact (fe_var 2)) (by exact fa_cons (by exact (fe_clsv ⟨rfl, rfl⟩ Fa.m_Misfit)) fa_nil))))) fa_nil))))) (by exact fa_cons (by exact (fe_tup (by exact (by exact fa_cons (by exact fe_str) (by exact fa_cons (by exact (fe_builtin (okIsi ⟨rfl, rfl⟩ ((by exact Fa.subK))) Fa.n_isinstance (by exact (by exact fa_cons (by exact (fe_var 2)) (by exact fa_cons (by exact (fe_clsv ⟨rfl, rfl⟩ Fa.m_Nothing)) fa_nil))))) fa_nil))))) fa_nil))))))))) (by exact fs_cons (by exact (fs_setComp 5 (own := [("word", 6), ("is_it", 7)]) rfl sc_l_heard.nd (by rfl) (by decide) (by exact (fi_any ⟨rfl, rfl⟩ (by exact (fe_var 4)))) (fun s H C cl fp => (by exact (fg_tup ⟨rfl, rfl⟩ rfl (by exact fg_cons (by exact (fg_nm 6 sc_l_heard.nd)) (by exact fg_cons (by exact (fg_nm 7 sc_l_heard.nd)) fg_nil))))) (fun s H C cl fp => (by exact ft_one (by exact (ft_val ⟨rfl, rfl⟩ (by exact (fe_var 7)))))) (fun s H C cl fp => (by exact (fe_var 6))))) (by exact fs_one (by exact (fs_ret (by exact (fe_if (by exact (ft_cmp blEq (okEq ⟨rfl, rfl⟩ (hu_room hr)) (by exact (fe_builtin (okLen ⟨rfl, rfl⟩) Fa.n_len (by exact (by exact fa_cons (by exact (fe_var 5)) fa_nil)))) (by exact fe_int) rfl)) (by exact (fe_tup (by exact (by exact fa_cons (by exact (fe_ix (okIx ⟨rfl, rfl⟩) (by exact (fe_var 5)) (by exact fe_int))) (by exact fa_cons (by exact (fe_xattr ⟨rfl, rfl⟩ (by exact fun c C => Fa.xfK _ c C) (by exact (fe_var 2)))) fa_nil))))) (by exact (fe_tup (by exact (by exact fa_cons (by exact fe_str) fa_nil))))))))))))))))
theorem sc_l_shared : FnScope ["one", "other", "turn"] ["one", "other"] (defScope s_l_shared) := ⟨rfl, rfl, rfl, by decide +kernel, rfl, by decide +kernel, by decide +kernel⟩
theorem ok_l_shared (Fa : Fx P K mg) (B : Bx Fa base) : DefG P w K mg base (gx Fa) 1 Fa.a_l_shared Fa.d_l_shared ["one", "other"] f_l_shared := by
  refine fn_ok2 (b := b_l_shared) (N := ["one", "other", "turn"]) Fa.F_l_shared sc_l_shared rfl fun cdv A outer s H E hC hr hgd => ?_
  exact (by exact (by exact fs_cons (by exact (fs_for (passes_of rfl) rfl (by exact (fi_rng1 Fa.n_range (by exact (by exact fa_cons (by exact fe_int) fa_nil)))) (by exact (fg_nm 2 sc_l_shared.nd)) (by exact (by exact fs_cons (by exact (fs_if (by exact (ft_cmp blEq (okEq ⟨rfl, rfl⟩ (hu_room hr)) (by exact (fe_var 1)) (by exact fe_int) rfl)) (by exact (by exact fs_one (by exact fs_break))) fs_nil)) (by exact fs_one (by exact (fs_par2 0 1 rfl sc_l_shared.nd (by exact (by exact fa_cons (by exact (fe_var 1)) (by exact fa_cons (by exact (fe_bin (okMod) (by exact (fe_type (okIntS B.dig) Fa.n_int (by exact (by exact fa_cons (by exact (fe_var 0)) fa_nil)))) (by exact (fe_var 1)))) fa_nil)))))))))) (by exact fs_one (by exact (fs_ret (by exact (fe_builtin (okAbs) Fa.n_abs (by exact (by exact fa_cons (by exact (fe_var 0)) fa_nil)))))))))
theorem sc_l_lowest : FnScope ["top", "bottom", "shared", "sign"] ["top", "bottom"] (defScope s_l_lowest) := ⟨rfl, rfl, rfl, by decide +kernel, rfl, by decide +kernel, by decide +kernel⟩
theorem ok_l_lowest (Fa : Fx P K mg) (B : Bx Fa base) : DefG P w K mg base (gx Fa) 2 Fa.a_l_lowest Fa.d_l_lowest ["top", "bottom"] f_l_lowest := by
  refine fn_ok2 (b := b_l_lowest) (N := ["top", "bottom", "shared", "sign"]) Fa.F_l_lowest sc_l_lowest rfl fun cdv A outer s H E hC hr hgd => ?_
  exact (by exact (by exact fs_cons (by exact (fs_par2 2 3 rfl sc_l_lowest.nd (by exact (by exact fa_cons (by exact (fe_call (ps := ["one", "other"]) (takes_of rfl rfl rfl rfl) (ok_l_shared Fa B) hr (by decide) hgd Fa.m_l_shared Fa.k_l_shared Fa.b_l_shared (by exact (by exact fa_cons (by exact (fe_var 0)) (by exact fa_cons (by exact (fe_var 1)) fa_nil))))) (by exact fa_cons (by exact (fe_if (by exact (ft_cmp blLt (okLt) (by exact (fe_var 1)) (by exact fe_int) rfl)) (by exact (fe_un okNeg (by exact fe_int))) (by exact fe_int))) fa_nil))))) (by exact fs_one (by exact (fs_ret (by exact (fe_tup (by exact (by exact fa_cons (by exact (fe_bin (okDiv) (by exact (fe_bin (okMul) (by exact (fe_var 3)) (by exact (fe_var 0)))) (by exact (fe_var 2)))) (by exact fa_cons (by exact (fe_bin (okDiv) (by exact (fe_bin (okMul) (by exact (fe_var 3)) (by exact (fe_var 1)))) (by exact (fe_var 2)))) fa_nil))))))))))
theorem sc_l_whole : FnScope ["word", "figures", "sign"] ["word"] (defScope s_l_whole) := ⟨rfl, rfl, rfl, by decide +kernel, rfl, by decide +kernel, by decide +kernel⟩
theorem ok_l_whole (Fa : Fx P K mg) (B : Bx Fa base) : DefG P w K mg base (gx Fa) 1 Fa.a_l_whole Fa.d_l_whole ["word"] f_l_whole := by
  refine fn_ok2 (b := b_l_whole) (N := ["word", "figures", "sign"]) Fa.F_l_whole sc_l_whole rfl fun cdv A outer s H E hC hr hgd => ?_
  exact (by exact (by exact fs_cons (by exact (fs_set 1 sc_l_whole.nd (by exact (fe_if (by exact (ft_cmp blEq (okEq ⟨rfl, rfl⟩ (hu_room hr)) (by exact (fe_sl ⟨rfl, rfl⟩ (by exact (fe_var 0)) fo_none (fo_some (by exact fe_int)))) (by exact fe_str) rfl)) (by exact (fe_sl ⟨rfl, rfl⟩ (by exact (fe_var 0)) (fo_some (by exact fe_int)) fo_none)) (by exact (fe_var 0)))))) (by exact fs_cons (by exact (fs_if (by exact (PW.pt (by exact fw_or (by exact (ft_cmp blEq (okEq ⟨rfl, rfl⟩ (hu_room hr)) (by exact (fe_var 1)) (by exact fe_str) rfl)) (by exact fw_or (by exact (ft_cmp blGt (okGt) (by exact (fe_builtin (okLen ⟨rfl, rfl⟩) Fa.n_len (by exact (by exact fa_cons (by exact (fe_var 1)) fa_nil)))) (by exact fe_int) rfl)) (by exact fw_or1 (by exact (ft_cmp blNe (okNe ⟨rfl, rfl⟩ (hu_room hr)) (by exact (fe_comp (own := [("sign", 2)]) rfl sc_l_whole.nd (by rfl) (by decide) (by exact (fi_any ⟨rfl, rfl⟩ (by exact (fe_var 1)))) (fun s H C cl fp => (by exact (fg_nm 2 sc_l_whole.nd))) (fun s H C cl fp => (by exact ft_one (by exact (ft_cmp blNotIn (okNotIn ⟨rfl, rfl⟩ (hu_room5 hr)) (by exact (fe_var 2)) (by exact fe_str) rfl)))) (fun s H C cl fp => (by exact (fe_var 2))))) (by exact (fe_lst fa_nil)) rfl))))))) (by exact (by exact fs_one (by exact (fs_ret (by exact fe_non))))) fs_nil)) (by exact fs_one (by exact (fs_ret (by exact (fe_if (by exact (ft_cmp blEq (okEq ⟨rfl, rfl⟩ (hu_room hr)) (by exact (fe_type (okStrW rfl B.dig) Fa.n_str (by exact (by exact fa_cons (by exact (fe_type (okIntS B.dig) Fa.n_int (by exact (by exact fa_cons (by exact (fe_var 0)) fa_nil)))) fa_nil)))) (by exact (fe_var 0)) rfl)) (by exact (fe_type (okIntS B.dig) Fa.n_int (by exact (by exact fa_cons (by exact (fe_var 0)) fa_nil)))) (by exact fe_non)))))))))
theorem sc_l_read : FnScope ["word", "parts", "numbers", "part"] ["word"] (defScope s_l_read) := ⟨rfl, rfl, rfl, by decide +kernel, rfl, by decide +kernel, by decide +kernel⟩
theorem ok_l_read (Fa : Fx P K mg) (B : Bx Fa base) : DefG P w K mg base (gx Fa) 2 Fa.a_l_read Fa.d_l_read ["word"] f_l_read := by
  refine fn_ok2 (b := b_l_read) (N := ["word", "parts", "numbers", "part"]) Fa.F_l_read sc_l_read rfl fun cdv A outer s H E hC hr hgd => ?_
  exact (by exact (by exact fs_cons (by exact (fs_set 1 sc_l_read.nd (by exact (fe_split (by exact (fe_var 0)) (by exact fe_str))))) (by exact fs_cons (by exact (fs_setComp 2 (own := [("part", 3)]) rfl sc_l_read.nd (by rfl) (by decide) (by exact (fi_any ⟨rfl, rfl⟩ (by exact (fe_var 1)))) (fun s H C cl fp => (by exact (fg_nm 3 sc_l_read.nd))) (fun s H C cl fp => ft_nil) (fun s H C cl fp => (by exact (fe_call (ps := ["word"]) LamX.takes0 (ok_l_whole Fa B) hr (by decide) hgd Fa.m_l_whole Fa.k_l_whole Fa.b_l_whole (by exact (by exact fa_cons (by exact (fe_var 3)) fa_nil))))))) (by exact fs_cons (by exact (fs_if (by exact (PW.pt (by exact fw_or (by exact (ft_cmp blIn (okIn ⟨rfl, rfl⟩ (hu_room5 hr)) (by exact fe_non) (by exact (fe_var 2)) rfl)) (by exact fw_or1 (by exact (ft_cmp blGt (okGt) (by exact (fe_builtin (okLen ⟨rfl, rfl⟩) Fa.n_len (by exact (by exact fa_cons (by exact (fe_var 1)) fa_nil)))) (by exact fe_int) rfl)))))) (by exact (by exact fs_one (by exact (fs_ret (by exact fe_non))))) fs_nil)) (by exact fs_cons (by exact (fs_if (by exact (ft_cmp blEq (okEq ⟨rfl, rfl⟩ (hu_room hr)) (by exact (fe_builtin (okLen ⟨rfl, rfl⟩) Fa.n_len (by exact (by exact fa_cons (by exact (fe_var 1)) fa_nil)))) (by exact fe_int) rfl)) (by exact (by exact fs_one (by exact (fs_ret (by exact (fe_tup (by exact (by exact fa_cons (by exact (fe_ix (okIx ⟨rfl, rfl⟩) (by exact (fe_var 2)) (by exact fe_int))) (by exact fa_cons (by exact fe_int) fa_nil))))))))) fs_nil)) (by exact fs_one (by exact (fs_ret (by exact (fe_if (by exact (PW.pt (by exact fw_and (by exact (ft_cmp blGt (okGt) (by exact (fe_ix (okIx ⟨rfl, rfl⟩) (by exact (fe_var 2)) (by exact fe_int))) (by exact fe_int) rfl)) (by exact fw_and1 (by exact (ft_cmp blEq (okEq ⟨rfl, rfl⟩ (hu_room hr)) (by exact (fe_call (ps := ["one", "other"]) (takes_of rfl rfl rfl rfl) (ok_l_shared Fa B) hr (by decide) hgd Fa.m_l_shared Fa.k_l_shared Fa.b_l_shared (by exact (by exact fa_cons (by exact (fe_ix (okIx ⟨rfl, rfl⟩) (by exact (fe_var 2)) (by exact fe_int))) (by exact fa_cons (by exact (fe_ix (okIx ⟨rfl, rfl⟩) (by exact (fe_var 2)) (by exact fe_int))) fa_nil))))) (by exact fe_int) rfl)))))) (by exact (fe_type (okTuple ⟨rfl, rfl⟩) Fa.n_tuple (by exact (by exact fa_cons (by exact (fe_var 2)) fa_nil)))) (by exact fe_non)))))))))))
theorem sc_l_bent : FnScope ["pen", "top", "bottom", "word", "way", "at", "sign"] ["pen"] (defScope s_l_bent) := ⟨rfl, rfl, rfl, by decide +kernel, rfl, by decide +kernel, by decide +kernel⟩
theorem ok_l_bent (Fa : Fx P K mg) (B : Bx Fa base) : DefG P w K mg base (gx Fa) 3 Fa.a_l_bent Fa.d_l_bent ["pen"] f_l_bent := by
  refine fn_ok2 (b := b_l_bent) (N := ["pen", "top", "bottom", "word", "way", "at", "sign"]) Fa.F_l_bent sc_l_bent rfl fun cdv A outer s H E hC hr hgd => ?_
  exact (by exact (by exact fs_cons (by exact (fs_par2 1 2 rfl sc_l_bent.nd (by exact (by exact fa_cons (by exact (fe_bin (okSub) (by exact (fe_call (ps := ["pen", "many"]) (takes_of rfl rfl rfl rfl) (ok_l_draw Fa B) hr (by decide) hgd Fa.m_l_draw Fa.k_l_draw Fa.b_l_draw (by exact (by exact fa_cons (by exact (fe_var 0)) (by exact fa_cons (by exact fe_int) fa_nil))))) (by exact fe_int))) (by exact fa_cons (by exact (fe_bin (okAdd ⟨rfl, rfl⟩) (by exact fe_int) (by exact (fe_call (ps := ["pen", "many"]) (takes_of rfl rfl rfl rfl) (ok_l_draw Fa B) hr (by decide) hgd Fa.m_l_draw Fa.k_l_draw Fa.b_l_draw (by exact (by exact fa_cons (by exact (fe_var 0)) (by exact fa_cons (by exact fe_int) fa_nil))))))) fa_nil))))) (by exact fs_cons (by exact (fs_par2 3 4 rfl sc_l_bent.nd (by exact (by exact fa_cons (by exact (fe_bin (okAdd ⟨rfl, rfl⟩) (by exact (fe_bin (okAdd ⟨rfl, rfl⟩) (by exact (fe_type (okStrW rfl B.dig) Fa.n_str (by exact (by exact fa_cons (by exact (fe_var 1)) fa_nil)))) (by exact fe_str))) (by exact (fe_type (okStrW rfl B.dig) Fa.n_str (by exact (by exact fa_cons (by exact (fe_var 2)) fa_nil)))))) (by exact fa_cons (by exact (fe_call (ps := ["pen", "many"]) (takes_of rfl rfl rfl rfl) (ok_l_draw Fa B) hr (by decide) hgd Fa.m_l_draw Fa.k_l_draw Fa.b_l_draw (by exact (by exact fa_cons (by exact (fe_var 0)) (by exact fa_cons (by exact fe_int) fa_nil))))) fa_nil))))) (by exact fs_cons (by exact (fs_set 5 sc_l_bent.nd (by exact (fe_call (ps := ["pen", "many"]) (takes_of rfl rfl rfl rfl) (ok_l_draw Fa B) hr (by decide) hgd Fa.m_l_draw Fa.k_l_draw Fa.b_l_draw (by exact (by exact fa_cons (by exact (fe_var 0)) (by exact fa_cons (by exact (fe_builtin (okLen ⟨rfl, rfl⟩) Fa.n_len (by exact (by exact fa_cons (by exact (fe_var 3)) fa_nil)))) fa_nil))))))) (by exact fs_cons (by exact (fs_set 6 sc_l_bent.nd (by exact (fe_call (ps := ["pen", "some"]) (takes_of rfl rfl rfl rfl) (ok_l_pick Fa B) hr (by decide) hgd Fa.m_l_pick Fa.k_l_pick Fa.b_l_pick (by exact (by exact fa_cons (by exact (fe_var 0)) (by exact fa_cons (by exact (fe_lst (by exact (by exact fa_cons (by exact fe_str) (by exact fa_cons (by exact fe_str) (by exact fa_cons (by exact fe_str) (by exact fa_cons (by exact fe_str) (by exact fa_cons (by exact fe_str) (by exact fa_cons (by exact fe_str) (by exact fa_cons (by exact fe_str) (by exact fa_cons (by exact fe_str) (by exact fa_cons (by exact fe_str) (by exact fa_cons (by exact fe_str) (by exact fa_cons (by exact fe_str) (by exact fa_cons (by exact fe_str) fa_nil))))))))))))))) fa_nil))))))) (by exact fs_cons (by exact (fs_if (by exact (ft_cmp blEq (okEq ⟨rfl, rfl⟩ (hu_room hr)) (by exact (fe_var 4)) (by exact fe_int) rfl)) (by exact (by exact fs_one (by exact (fs_ret (by exact (fe_bin (okAdd ⟨rfl, rfl⟩) (by exact (fe_bin (okAdd ⟨rfl, rfl⟩) (by exact (fe_sl ⟨rfl, rfl⟩ (by exact (fe_var 3)) fo_none (fo_some (by exact (fe_var 5))))) (by exact (fe_var 6)))) (by exact (fe_sl ⟨rfl, rfl⟩ (by exact (fe_var 3)) (fo_some (by exact (fe_var 5))) fo_none)))))))) fs_nil)) (by exact fs_cons (by exact (fs_if (by exact (ft_cmp blEq (okEq ⟨rfl, rfl⟩ (hu_room hr)) (by exact (fe_var 4)) (by exact fe_int) rfl)) (by exact (by exact fs_one (by exact (fs_ret (by exact (fe_bin (okAdd ⟨rfl, rfl⟩) (by exact (fe_bin (okAdd ⟨rfl, rfl⟩) (by exact (fe_sl ⟨rfl, rfl⟩ (by exact (fe_var 3)) fo_none (fo_some (by exact (fe_var 5))))) (by exact (fe_var 6)))) (by exact (fe_sl ⟨rfl, rfl⟩ (by exact (fe_var 3)) (fo_some (by exact (fe_bin (okAdd ⟨rfl, rfl⟩) (by exact (fe_var 5)) (by exact fe_int)))) fo_none)))))))) fs_nil)) (by exact fs_cons (by exact (fs_if (by exact (ft_cmp blEq (okEq ⟨rfl, rfl⟩ (hu_room hr)) (by exact (fe_var 4)) (by exact fe_int) rfl)) (by exact (by exact fs_one (by exact (fs_ret (by exact (fe_bin (okAdd ⟨rfl, rfl⟩) (by exact (fe_sl ⟨rfl, rfl⟩ (by exact (fe_var 3)) fo_none (fo_some (by exact (fe_var 5))))) (by exact (fe_sl ⟨rfl, rfl⟩ (by exact (fe_var 3)) (fo_some (by exact (fe_bin (okAdd ⟨rfl, rfl⟩) (by exact (fe_var 5)) (by exact fe_int)))) fo_none)))))))) fs_nil)) (by exact fs_one (by exact (fs_ret (by exact (fe_if (by exact (ft_cmp blLt (okLt) (by exact (fe_var 4)) (by exact fe_int) rfl)) (by exact (fe_var 3)) (by exact (fe_call (ps := ["pen", "some"]) (takes_of rfl rfl rfl rfl) (ok_l_pick Fa B) hr (by decide) hgd Fa.m_l_pick Fa.k_l_pick Fa.b_l_pick (by exact (by exact fa_cons (by exact (fe_var 0)) (by exact fa_cons (by exact (fe_lst (by exact (by exact fa_cons (by exact fe_str) (by exact fa_cons (by exact fe_str) (by exact fa_cons (by exact fe_str) (by exact fa_cons (by exact fe_str) (by exact fa_cons (by exact fe_str) (by exact fa_cons (by exact fe_str) (by exact fa_cons (by exact fe_str) (by exact fa_cons (by exact fe_str) (by exact fa_cons (by exact fe_str) (by exact fa_cons (by exact fe_str) (by exact fa_cons (by exact fe_str) (by exact fa_cons (by exact (fe_bin (okMul) (by exact fe_str) (by exact fe_int))) (by exact fa_cons (by exact (fe_bin (okMul) (by exact fe_str) (by exact fe_int))) (by exact fa_cons (by exact (fe_bin (okAdd ⟨rfl, rfl⟩) (by exact fe_str) (by exact (fe_bin (okMul) (by exact fe_str) (by exact fe_int))))) (by exact fa_cons (by exact (fe_bin (okAdd ⟨rfl, rfl⟩) (by exact fe_str) (by exact (fe_bin (okMul) (by exact fe_str) (by exact fe_int))))) fa_nil)))))))))))))))))) fa_nil))))))))))))))))))
theorem sc_l_simplest : FnScope ["low", "high", "most", "bottom", "first", "last"] ["low", "high", "most"] (defScope s_l_simplest) := ⟨rfl, rfl, rfl, by decide +kernel, rfl, by decide +kernel, by decide +kernel⟩
theorem ok_l_simplest (Fa : Fx P K mg) (B : Bx Fa base) : DefG P w K mg base (gx Fa) 1 Fa.a_l_simplest Fa.d_l_simplest ["low", "high", "most"] f_l_simplest := by
  refine fn_ok2 (b := b_l_simplest) (N := ["low", "high", "most", "bottom", "first", "last"]) Fa.F_l_simplest sc_l_simplest rfl fun cdv A outer s H E hC hr hgd => ?_
  exact (by exact (by exact fs_cons (by exact (fs_for (passes_of rfl) rfl (by exact (fi_rng2 Fa.n_range (by exact (by exact fa_cons (by exact fe_int) (by exact fa_cons (by exact (fe_bin (okAdd ⟨rfl, rfl⟩) (by exact (fe_var 2)) (by exact fe_int))) fa_nil))))) (by exact (fg_nm 3 sc_l_simplest.nd)) (by exact (by exact fs_cons (by exact (fs_par2 4 5 rfl sc_l_simplest.nd (by exact (by exact fa_cons (by exact (fe_bin (okAdd ⟨rfl, rfl⟩) (by exact (fe_bin (okDiv) (by exact (fe_bin (okMul) (by exact (fe_ix (okIx ⟨rfl, rfl⟩) (by exact (fe_var 0)) (by exact fe_int))) (by exact (fe_var 3)))) (by exact (fe_ix (okIx ⟨rfl, rfl⟩) (by exact (fe_var 0)) (by exact fe_int))))) (by exact fe_int))) (by exact fa_cons (by exact (fe_bin (okSub) (by exact (fe_un okNeg (by exact (fe_bin (okDiv) (by exact (fe_bin (okMul) (by exact (fe_un okNeg (by exact (fe_ix (okIx ⟨rfl, rfl⟩) (by exact (fe_var 1)) (by exact fe_int))))) (by exact (fe_var 3)))) (by exact (fe_ix (okIx ⟨rfl, rfl⟩) (by exact (fe_var 1)) (by exact fe_int))))))) (by exact fe_int))) fa_nil))))) (by exact fs_one (by exact (fs_if (by exact (ft_cmp blLe (okLe) (by exact (fe_var 4)) (by exact (fe_var 5)) rfl)) (by exact (by exact fs_one (by exact (fs_ret (by exact (fe_tup (by exact (by exact fa_cons (by exact (fe_if (by exact (ft_chain (okLe) (okLe) (by exact (fe_var 4)) (by exact fe_int) (by exact (fe_var 5)))) (by exact fe_int) (by exact (fe_if (by exact (ft_cmp blGt (okGt) (by exact (fe_var 4)) (by exact fe_int) rfl)) (by exact (fe_var 4)) (by exact (fe_var 5)))))) (by exact fa_cons (by exact (fe_var 3)) fa_nil))))))))) fs_nil))))))) (by exact fs_one (by exact (fs_ret (by exact fe_non))))))
theorem sc_law : FnScope ["script", "pen", "turn", "word", "due", "odd", "bad", "good", "whole", "left", "right", "lap", "many", "low", "other", "value"] ["script"] (defScope s_law) := ⟨rfl, rfl, rfl, by decide +kernel, rfl, by decide +kernel, by decide +kernel⟩
theorem ok_law (Fa : Fx P K mg) (B : Bx Fa base) : DefG P w K mg base (gx Fa) 7 Fa.a_law Fa.d_law ["script"] f_law := by
  refine fn_ok2 (b := b_law) (N := ["script", "pen", "turn", "word", "due", "odd", "bad", "good", "whole", "left", "right", "lap", "many", "low", "other", "value"]) Fa.F_law sc_law rfl fun cdv A outer s H E hC hr hgd => ?_
  exact (by exact (by exact fs_cons (by exact (fs_set 1 sc_law.nd (by exact (fe_call (ps := ["script"]) (takes_of rfl rfl rfl rfl) (ok_l_pen Fa B) hr (by decide) hgd Fa.m_l_pen Fa.k_l_pen Fa.b_l_pen (by exact (by exact fa_cons (by exact (fe_var 0)) fa_nil)))))) (by exact fs_cons (by exact (fs_for (passes_of rfl) rfl (by exact (fi_rng1 Fa.n_range (by exact (by exact fa_cons (by exact fe_int) fa_nil)))) (by exact (fg_nm 2 sc_law.nd)) (by exact (by exact fs_cons (by exact (fs_set 3 sc_law.nd (by exact (fe_call (ps := ["pen"]) (takes_of rfl rfl rfl rfl) (ok_l_bent Fa B) hr (by decide) hgd Fa.m_l_bent Fa.k_l_bent Fa.b_l_bent (by exact (by exact fa_cons (by exact (fe_var 1)) fa_nil)))))) (by exact fs_cons (by exact (fs_set 4 sc_law.nd (by exact (fe_call (ps := ["word"]) (takes_of rfl rfl rfl rfl) (ok_l_read Fa B) hr (by decide) hgd Fa.m_l_read Fa.k_l_read Fa.b_l_read (by exact (by exact fa_cons (by exact (fe_var 3)) fa_nil)))))) (by exact fs_one (by exact (fs_if (by exact (PW.pt (by exact fw_or (by exact (ft_cmp blNe (okNe ⟨rfl, rfl⟩ (hu_room hr)) (by exact (fe_builtin (okReprW ⟨rfl, rfl⟩ hgd (hu_room hr) B.dig) Fa.n_repr (by exact (by exact fa_cons (by exact (fe_call (ps := ["word"]) (takes_of rfl rfl rfl rfl) (ok_read_ratio Fa B) hr (by decide) hgd Fa.m_read_ratio Fa.k_read_ratio Fa.b_read_ratio (by exact (by exact fa_cons (by exact (fe_var 3)) fa_nil)))) fa_nil)))) (by exact (fe_builtin (okReprW ⟨rfl, rfl⟩ hgd (hu_room hr) B.dig) Fa.n_repr (by exact (by exact fa_cons (by exact (fe_var 4)) fa_nil)))) rfl)) (by exact fw_or1 (by exact (PW.pt (by exact fw_and (by exact (ft_cmp blNotN (okNotN) (by exact (fe_var 4)) (by exact fe_non) rfl)) (by exact fw_and1 (by exact (ft_cmp blNe (okNe ⟨rfl, rfl⟩ (hu_room hr)) (by exact (fe_call (ps := ["one"]) (takes_of rfl rfl rfl rfl) (ok_ratio_text Fa B) hr (by decide) hgd Fa.m_ratio_text Fa.k_ratio_text Fa.b_ratio_text (by exact (by exact fa_cons (by exact (fe_var 4)) fa_nil)))) (by exact (fe_var 3)) rfl)))))))))) (by exact (by exact fs_one (by exact (fs_ret (by exact fe_bl))))) fs_nil)))))))) (by exact fs_cons (by exact (fs_set 5 sc_law.nd (by exact (fe_lst (by exact (by exact fa_cons (by exact fe_non) (by exact fa_cons (by exact fe_int) (by exact fa_cons (by exact fe_bl) (by exact fa_cons (by exact (fe_tup (by exact (by exact fa_cons (by exact fe_int) (by exact fa_cons (by exact fe_int) fa_nil))))) (by exact fa_cons (by exact (fe_lst (by exact (by exact fa_cons (by exact fe_str) fa_nil)))) (by exact fa_cons (by exact fe_bl) (by exact fa_cons (by exact fe_dic0) (by exact fa_cons (by exact (fe_tup (by exact (by exact fa_cons (by exact fe_str) fa_nil)))) fa_nil))))))))))))) (by exact fs_cons (by exact (fs_if (by exact (ft_cmp blNe (okNe ⟨rfl, rfl⟩ (hu_room hr)) (by exact (fe_comp (own := [("value", 15)]) rfl sc_law.nd (by rfl) (by decide) (by exact (fi_any ⟨rfl, rfl⟩ (by exact (fe_var 5)))) (fun s H C cl fp => (by exact (fg_nm 15 sc_law.nd))) (fun s H C cl fp => (by exact ft_one (by exact (ft_cmp blNotN (okNotN) (by exact (fe_call (ps := ["word"]) LamX.takes0 (ok_read_ratio Fa B) hr (by decide) hgd Fa.m_read_ratio Fa.k_read_ratio Fa.b_read_ratio (by exact (by exact fa_cons (by exact (fe_var 15)) fa_nil)))) (by exact fe_non) rfl)))) (fun s H C cl fp => (by exact (fe_var 15))))) (by exact (fe_lst fa_nil)) rfl)) (by exact (by exact fs_one (by exact (fs_ret (by exact fe_bl))))) fs_nil)) (by exact fs_cons (by exact (fs_set 6 sc_law.nd (by exact (fe_lst (by exact (by exact fa_cons (by exact fe_non) (by exact fa_cons (by exact fe_int) (by exact fa_cons (by exact fe_str) (by exact fa_cons (by exact (fe_tup fa_nil)) (by exact fa_cons (by exact (fe_tup (by exact (by exact fa_cons (by exact fe_int) fa_nil)))) (by exact fa_cons (by exact (fe_lst (by exact (by exact fa_cons (by exact fe_int) (by exact fa_cons (by exact fe_int) fa_nil))))) (by exact fa_cons (by exact (fe_tup (by exact (by exact fa_cons (by exact fe_int) (by exact fa_cons (by exact fe_int) (by exact fa_cons (by exact fe_int) fa_nil)))))) (by exact fa_cons (by exact (fe_tup (by exact (by exact fa_cons (by exact fe_bl) (by exact fa_cons (by exact fe_int) fa_nil))))) (by exact fa_cons (by exact (fe_tup (by exact (by exact fa_cons (by exact fe_int) (by exact fa_cons (by exact fe_bl) fa_nil))))) (by exact fa_cons (by exact (fe_tup (by exact (by exact fa_cons (by exact fe_int) (by exact fa_cons (by exact fe_int) fa_nil))))) (by exact fa_cons (by exact (fe_tup (by exact (by exact fa_cons (by exact fe_int) (by exact fa_cons (by exact (fe_un okNeg (by exact fe_int))) fa_nil))))) (by exact fa_cons (by exact (fe_tup (by exact (by exact fa_cons (by exact fe_int) (by exact fa_cons (by exact fe_int) fa_nil))))) (by exact fa_cons (by exact (fe_tup (by exact (by exact fa_cons (by exact fe_int) (by exact fa_cons (by exact fe_int) fa_nil))))) (by exact fa_cons (by exact (fe_tup (by exact (by exact fa_cons (by exact fe_str) (by exact fa_cons (by exact fe_int) fa_nil))))) (by exact fa_cons (by exact (fe_tup (by exact (by exact fa_cons (by exact fe_int) (by exact fa_cons (by exact fe_non) fa_nil))))) (by exact fa_cons (by exact fe_dic1) (by exact fa_cons (by exact (fe_tup (by exact (by exact fa_cons (by exact (fe_tup (by exact (by exact fa_cons (by exact fe_int) (by exact fa_cons (by exact fe_int) fa_nil))))) (by exact fa_cons (by exact fe_int) fa_nil))))) fa_nil)))))))))))))))))))))) (by exact fs_cons (by exact (fs_set 7 sc_law.nd (by exact (fe_lst (by exact (by exact fa_cons (by exact (fe_tup (by exact (by exact fa_cons (by exact fe_int) (by exact fa_cons (by exact fe_int) fa_nil))))) (by exact fa_cons (by exact (fe_tup (by exact (by exact fa_cons (by exact (fe_un okNeg (by exact fe_int))) (by exact fa_cons (by exact fe_int) fa_nil))))) (by exact fa_cons (by exact (fe_tup (by exact (by exact fa_cons (by exact fe_int) (by exact fa_cons (by exact fe_int) fa_nil))))) (by exact fa_cons (by exact (fe_tup (by exact (by exact fa_cons (by exact (fe_bin (okPow) (by exact fe_int) (by exact fe_int))) (by exact fa_cons (by exact (fe_bin (okAdd ⟨rfl, rfl⟩) (by exact (fe_bin (okPow) (by exact fe_int) (by exact fe_int))) (by exact fe_int))) fa_nil))))) (by exact fa_cons (by exact (fe_tup (by exact (by exact fa_cons (by exact (fe_un okNeg (by exact fe_int))) (by exact fa_cons (by exact (fe_bin (okPow) (by exact fe_int) (by exact fe_int))) fa_nil))))) fa_nil)))))))))) (by exact fs_cons (by exact (fs_if (by exact (PW.pt (by exact fw_or (by exact (ft_cmp blNe (okNe ⟨rfl, rfl⟩ (hu_room hr)) (by exact (fe_comp (own := [("value", 15)]) rfl sc_law.nd (by rfl) (by decide) (by exact (fi_any ⟨rfl, rfl⟩ (by exact (fe_var 6)))) (fun s H C cl fp => (by exact (fg_nm 15 sc_law.nd))) (fun s H C cl fp => (by exact ft_one (by exact (ft_cmp blNotB (okNotB) (by exact (fe_call (ps := ["value"]) LamX.takes0 (ok_is_ratio Fa B) hr (by decide) hgd Fa.m_is_ratio Fa.k_is_ratio Fa.b_is_ratio (by exact (by exact fa_cons (by exact (fe_var 15)) fa_nil)))) (by exact fe_bl) rfl)))) (fun s H C cl fp => (by exact (fe_var 15))))) (by exact (fe_lst fa_nil)) rfl)) (by exact fw_or1 (by exact (ft_cmp blNe (okNe ⟨rfl, rfl⟩ (hu_room hr)) (by exact (fe_comp (own := [("value", 15)]) rfl sc_law.nd (by rfl) (by decide) (by exact (fi_any ⟨rfl, rfl⟩ (by exact (fe_var 7)))) (fun s H C cl fp => (by exact (fg_nm 15 sc_law.nd))) (fun s H C cl fp => (by exact ft_one (by exact (ft_cmp blNotB (okNotB) (by exact (fx_callA (arr := [.k 0]) (m := 1) (fe_callK (ks := ["value"]) (arr := [.k 0]) (ps := ["value"]) LamX.takes0 (ok_is_ratio Fa B) hr (by decide) hgd Fa.m_is_ratio Fa.k_is_ratio (Fa.w_is_ratio_0_value _) (by exact (by exact fk_cons (by exact (fe_var 15)) fk_nil))))) (by exact fe_bl) rfl)))) (fun s H C cl fp => (by exact (fe_var 15))))) (by exact (fe_lst fa_nil)) rfl)))))) (by exact (by exact fs_one (by exact (fs_ret (by exact fe_bl))))) fs_nil)) (by exact fs_cons (by exact (fs_for (passes_of rfl) rfl (by exact (fi_rng1 Fa.n_range (by exact (by exact fa_cons (by exact fe_int) fa_nil)))) (by exact (fg_nm 2 sc_law.nd)) (by exact (by exact fs_cons (by exact (fs_set 13 sc_law.nd (by exact (fe_call (ps := ["top", "bottom"]) (takes_of rfl rfl rfl rfl) (ok_l_lowest Fa B) hr (by decide) hgd Fa.m_l_lowest Fa.k_l_lowest Fa.b_l_lowest (by exact (by exact fa_cons (by exact (fe_bin (okSub) (by exact (fe_call (ps := ["pen", "many"]) (takes_of rfl rfl rfl rfl) (ok_l_draw Fa B) hr (by decide) hgd Fa.m_l_draw Fa.k_l_draw Fa.b_l_draw (by exact (by exact fa_cons (by exact (fe_var 1)) (by exact fa_cons (by exact fe_int) fa_nil))))) (by exact fe_int))) (by exact fa_cons (by exact (fe_bin (okAdd ⟨rfl, rfl⟩) (by exact fe_int) (by exact (fe_call (ps := ["pen", "many"]) (takes_of rfl rfl rfl rfl) (ok_l_draw Fa B) hr (by decide) hgd Fa.m_l_draw Fa.k_l_draw Fa.b_l_draw (by exact (by exact fa_cons (by exact (fe_var 1)) (by exact fa_cons (by exact fe_int) fa_nil))))))) fa_nil))))))) (by exact fs_cons (by exact (fs_set 14 sc_law.nd (by exact (fe_if (by exact (ft_cmp blEq (okEq ⟨rfl, rfl⟩ (hu_room hr)) (by exact (fe_call (ps := ["pen", "many"]) (takes_of rfl rfl rfl rfl) (ok_l_draw Fa B) hr (by decide) hgd Fa.m_l_draw Fa.k_l_draw Fa.b_l_draw (by exact (by exact fa_cons (by exact (fe_var 1)) (by exact fa_cons (by exact fe_int) fa_nil))))) (by exact fe_int) rfl)) (by exact (fe_call (ps := ["top", "bottom"]) (takes_of rfl rfl rfl rfl) (ok_l_lowest Fa B) hr (by decide) hgd Fa.m_l_lowest Fa.k_l_lowest Fa.b_l_lowest (by exact (by exact fa_cons (by exact (fe_bin (okAdd ⟨rfl, rfl⟩) (by exact (fe_bin (okMul) (by exact (fe_ix (okIx ⟨rfl, rfl⟩) (by exact (fe_var 13)) (by exact fe_int))) (by exact fe_int))) (by exact (fe_call (ps := ["pen", "some"]) (takes_of rfl rfl rfl rfl) (ok_l_pick Fa B) hr (by decide) hgd Fa.m_l_pick Fa.k_l_pick Fa.b_l_pick (by exact (by exact fa_cons (by exact (fe_var 1)) (by exact fa_cons (by exact (fe_lst (by exact (by exact fa_cons (by exact fe_int) (by exact fa_cons (by exact fe_int) (by exact fa_cons (by exact fe_int) (by exact fa_cons (by exact fe_int) (by exact fa_cons (by exact fe_int) fa_nil)))))))) fa_nil))))))) (by exact fa_cons (by exact (fe_bin (okMul) (by exact (fe_ix (okIx ⟨rfl, rfl⟩) (by exact (fe_var 13)) (by exact fe_int))) (by exact fe_int))) fa_nil))))) (by exact (fe_call (ps := ["top", "bottom"]) (takes_of rfl rfl rfl rfl) (ok_l_lowest Fa B) hr (by decide) hgd Fa.m_l_lowest Fa.k_l_lowest Fa.b_l_lowest (by exact (by exact fa_cons (by exact (fe_bin (okSub) (by exact (fe_call (ps := ["pen", "many"]) (takes_of rfl rfl rfl rfl) (ok_l_draw Fa B) hr (by decide) hgd Fa.m_l_draw Fa.k_l_draw Fa.b_l_draw (by exact (by exact fa_cons (by exact (fe_var 1)) (by exact fa_cons (by exact fe_int) fa_nil))))) (by exact fe_int))) (by exact fa_cons (by exact (fe_bin (okAdd ⟨rfl, rfl⟩) (by exact fe_int) (by exact (fe_call (ps := ["pen", "many"]) (takes_of rfl rfl rfl rfl) (ok_l_draw Fa B) hr (by decide) hgd Fa.m_l_draw Fa.k_l_draw Fa.b_l_draw (by exact (by exact fa_cons (by exact (fe_var 1)) (by exact fa_cons (by exact fe_int) fa_nil))))))) fa_nil))))))))) (by exact fs_cons (by exact (fs_if (by exact (ft_cmp blGe (okGe) (by exact (fe_bin (okMul) (by exact (fe_ix (okIx ⟨rfl, rfl⟩) (by exact (fe_var 13)) (by exact fe_int))) (by exact (fe_ix (okIx ⟨rfl, rfl⟩) (by exact (fe_var 14)) (by exact fe_int))))) (by exact (fe_bin (okMul) (by exact (fe_ix (okIx ⟨rfl, rfl⟩) (by exact (fe_var 14)) (by exact fe_int))) (by exact (fe_ix (okIx ⟨rfl, rfl⟩) (by exact (fe_var 13)) (by exact fe_int))))) rfl)) (by exact (by exact fs_cons (by exact (fs_if (by exact (ft_cmp blNe (okNe ⟨rfl, rfl⟩ (hu_room hr)) (by exact (fe_heard (k := 4) (takes_of rfl rfl rfl rfl) (ok_heard Fa B 4 (by decide)) hr (by decide) hgd Fa.m_l_heard Fa.k_l_heard (lamD_by (by rfl)) (T_law Fa) (mk_lam0 (lamD_by (by rfl)) B.TB_law hC (T_law Fa) (U_law Fa) rfl (fun _ _ _ _ _ _ => rfl)) (fun A outer s H E f c' hl hgd => (by exact (fe_call (ps := ["low", "high"]) (takes_of rfl rfl rfl rfl) (ok_simplest Fa B) hl (by decide) hgd Fa.m_simplest Fa.k_simplest Fa.b_simplest (by exact (by exact fa_cons (by exact (fe_var 13)) (by exact fa_cons (by exact (fe_var 14)) fa_nil)))))))) (by exact (fe_tup (by exact (by exact fa_cons (by exact fe_str) (by exact fa_cons (by exact fe_str) fa_nil))))) rfl)) (by exact (by exact fs_one (by exact (fs_ret (by exact fe_bl))))) fs_nil)) (by exact fs_one (by exact (fs_asg (by exact (fe_tup (by exact (by exact fa_cons (by exact (fe_var 14)) (by exact fa_cons (by exact (fe_var 13)) fa_nil))))) (by exact (fg_tup ⟨rfl, rfl⟩ rfl (by exact fg_cons (by exact (fg_nm 13 sc_law.nd)) (by exact fg_cons (by exact (fg_nm 14 sc_law.nd)) fg_nil))))))))) fs_nil)) (by exact fs_one (by exact (fs_if (by exact (PW.pt (by exact fw_and (by exact (ft_cmp blNe (okNe ⟨rfl, rfl⟩ (hu_room hr)) (by exact (fe_var 13)) (by exact (fe_var 14)) rfl)) (by exact fw_and1 (by exact (ft_cmp blNe (okNe ⟨rfl, rfl⟩ (hu_room hr)) (by exact (fe_lst (by exact (by exact fa_cons (by exact (fe_call (ps := ["low", "high"]) (takes_of rfl rfl rfl rfl) (ok_simplest Fa B) hr (by decide) hgd Fa.m_simplest Fa.k_simplest Fa.b_simplest (by exact (by exact fa_cons (by exact (fe_var 13)) (by exact fa_cons (by exact (fe_var 14)) fa_nil))))) (by exact fa_cons (by exact (fx_callA (arr := [.k 1, .k 0]) (m := 2) (fe_callK (ks := ["high", "low"]) (arr := [.k 1, .k 0]) (ps := ["low", "high"]) (takes_of rfl rfl rfl rfl) (ok_simplest Fa B) hr (by decide) hgd Fa.m_simplest Fa.k_simplest (Fa.w_simplest_0_high_low _) (by exact (by exact fk_cons (by exact (fe_var 14)) (by exact fk_cons (by exact (fe_var 13)) fk_nil)))))) fa_nil))))) (by exact (fe_bin (okMul) (by exact (fe_lst (by exact (by exact fa_cons (by exact (fe_call (ps := ["low", "high", "most"]) (takes_of rfl rfl rfl rfl) (ok_l_simplest Fa B) hr (by decide) hgd Fa.m_l_simplest Fa.k_l_simplest Fa.b_l_simplest (by exact (by exact fa_cons (by exact (fe_var 13)) (by exact fa_cons (by exact (fe_var 14)) (by exact fa_cons (by exact (fe_bin (okAdd ⟨rfl, rfl⟩) (by exact (fe_ix (okIx ⟨rfl, rfl⟩) (by exact (fe_var 13)) (by exact fe_int))) (by exact (fe_ix (okIx ⟨rfl, rfl⟩) (by exact (fe_var 14)) (by exact fe_int))))) fa_nil)))))) fa_nil)))) (by exact fe_int))) rfl)))))) (by exact (by exact fs_one (by exact (fs_ret (by exact fe_bl))))) fs_nil))))))))) (by exact fs_cons (by exact (fs_for (passes_of rfl) rfl (by exact (fi_rng1 Fa.n_range (by exact (by exact fa_cons (by exact fe_int) fa_nil)))) (by exact (fg_nm 2 sc_law.nd)) (by exact (by exact fs_cons (by exact (fs_set 8 sc_law.nd (by exact (fe_bin (okSub) (by exact (fe_call (ps := ["pen", "many"]) (takes_of rfl rfl rfl rfl) (ok_l_draw Fa B) hr (by decide) hgd Fa.m_l_draw Fa.k_l_draw Fa.b_l_draw (by exact (by exact fa_cons (by exact (fe_var 1)) (by exact fa_cons (by exact fe_int) fa_nil))))) (by exact fe_int))))) (by exact fs_cons (by exact (fs_par2 9 10 rfl sc_law.nd (by exact (by exact fa_cons (by exact (fe_tup (by exact (by exact fa_cons (by exact (fe_var 8)) (by exact fa_cons (by exact fe_int) fa_nil))))) (by exact fa_cons (by exact (fe_tup (by exact (by exact fa_cons (by exact (fe_bin (okAdd ⟨rfl, rfl⟩) (by exact (fe_var 8)) (by exact fe_int))) (by exact fa_cons (by exact fe_int) fa_nil))))) fa_nil))))) (by exact fs_cons (by exact (fs_for (passes_of rfl) rfl (by exact (fi_rng1 Fa.n_range (by exact (by exact fa_cons (by exact (fe_bin (okAdd ⟨rfl, rfl⟩) (by exact fe_int) (by exact (fe_call (ps := ["pen", "many"]) (takes_of rfl rfl rfl rfl) (ok_l_draw Fa B) hr (by decide) hgd Fa.m_l_draw Fa.k_l_draw Fa.b_l_draw (by exact (by exact fa_cons (by exact (fe_var 1)) (by exact fa_cons (by exact fe_int) fa_nil))))))) fa_nil)))) (by exact (fg_nm 11 sc_law.nd)) (by exact (by exact fs_cons (by exact (fs_set 12 sc_law.nd (by exact (fe_call (ps := ["pen", "some"]) (takes_of rfl rfl rfl rfl) (ok_l_pick Fa B) hr (by decide) hgd Fa.m_l_pick Fa.k_l_pick Fa.b_l_pick (by exact (by exact fa_cons (by exact (fe_var 1)) (by exact fa_cons (by exact (fe_lst (by exact (by exact fa_cons (by exact fe_int) (by exact fa_cons (by exact fe_int) (by exact fa_cons (by exact fe_int) (by exact fa_cons (by exact fe_int) (by exact fa_cons (by exact (fe_bin (okPow) (by exact fe_int) (by exact fe_int))) (by exact fa_cons (by exact (fe_bin (okAdd ⟨rfl, rfl⟩) (by exact (fe_bin (okPow) (by exact fe_int) (by exact fe_int))) (by exact fe_int))) fa_nil))))))))) fa_nil))))))) (by exact fs_one (by exact (fs_if (by exact (ft_cmp blEq (okEq ⟨rfl, rfl⟩ (hu_room hr)) (by exact (fe_call (ps := ["pen", "many"]) (takes_of rfl rfl rfl rfl) (ok_l_draw Fa B) hr (by decide) hgd Fa.m_l_draw Fa.k_l_draw Fa.b_l_draw (by exact (by exact fa_cons (by exact (fe_var 1)) (by exact fa_cons (by exact fe_int) fa_nil))))) (by exact fe_int) rfl)) (by exact (by exact fs_one (by exact (fs_set 9 sc_law.nd (by exact (fe_tup (by exact (by exact fa_cons (by exact (fe_bin (okAdd ⟨rfl, rfl⟩) (by exact (fe_ix (okIx ⟨rfl, rfl⟩) (by exact (fe_var 9)) (by exact fe_int))) (by exact (fe_bin (okMul) (by exact (fe_var 12)) (by exact (fe_ix (okIx ⟨rfl, rfl⟩) (by exact (fe_var 10)) (by exact fe_int))))))) (by exact fa_cons (by exact (fe_bin (okAdd ⟨rfl, rfl⟩) (by exact (fe_ix (okIx ⟨rfl, rfl⟩) (by exact (fe_var 9)) (by exact fe_int))) (by exact (fe_bin (okMul) (by exact (fe_var 12)) (by exact (fe_ix (okIx ⟨rfl, rfl⟩) (by exact (fe_var 10)) (by exact fe_int))))))) fa_nil))))))))) (by exact (by exact fs_one (by exact (fs_set 10 sc_law.nd (by exact (fe_tup (by exact (by exact fa_cons (by exact (fe_bin (okAdd ⟨rfl, rfl⟩) (by exact (fe_ix (okIx ⟨rfl, rfl⟩) (by exact (fe_var 10)) (by exact fe_int))) (by exact (fe_bin (okMul) (by exact (fe_var 12)) (by exact (fe_ix (okIx ⟨rfl, rfl⟩) (by exact (fe_var 9)) (by exact fe_int))))))) (by exact fa_cons (by exact (fe_bin (okAdd ⟨rfl, rfl⟩) (by exact (fe_ix (okIx ⟨rfl, rfl⟩) (by exact (fe_var 10)) (by exact fe_int))) (by exact (fe_bin (okMul) (by exact (fe_var 12)) (by exact (fe_ix (okIx ⟨rfl, rfl⟩) (by exact (fe_var 9)) (by exact fe_int))))))) fa_nil)))))))))))))))) (by exact fs_one (by exact (fs_if (by exact (ft_cmp blNe (okNe ⟨rfl, rfl⟩ (hu_room hr)) (by exact (fe_call (ps := ["low", "high"]) (takes_of rfl rfl rfl rfl) (ok_simplest Fa B) hr (by decide) hgd Fa.m_simplest Fa.k_simplest Fa.b_simplest (by exact (by exact fa_cons (by exact (fe_var 9)) (by exact fa_cons (by exact (fe_var 10)) fa_nil))))) (by exact (fe_tup (by exact (by exact fa_cons (by exact (fe_bin (okAdd ⟨rfl, rfl⟩) (by exact (fe_ix (okIx ⟨rfl, rfl⟩) (by exact (fe_var 9)) (by exact fe_int))) (by exact (fe_ix (okIx ⟨rfl, rfl⟩) (by exact (fe_var 10)) (by exact fe_int))))) (by exact fa_cons (by exact (fe_bin (okAdd ⟨rfl, rfl⟩) (by exact (fe_ix (okIx ⟨rfl, rfl⟩) (by exact (fe_var 9)) (by exact fe_int))) (by exact (fe_ix (okIx ⟨rfl, rfl⟩) (by exact (fe_var 10)) (by exact fe_int))))) fa_nil))))) rfl)) (by exact (by exact fs_one (by exact (fs_ret (by exact fe_bl))))) fs_nil))))))))) (by exact fs_one (by exact (fs_ret (by exact (fe_cmp (okEq ⟨rfl, rfl⟩ (hu_room hr)) (by exact (fe_heard (k := 4) (takes_of rfl rfl rfl rfl) (ok_heard Fa B 4 (by decide)) hr (by decide) hgd Fa.m_l_heard Fa.k_l_heard (lamD_by (by rfl)) (T_law Fa) (mk_lam0 (lamD_by (by rfl)) B.TB_law hC (T_law Fa) (U_law Fa) rfl (fun _ _ _ _ _ _ => rfl)) (fun A outer s H E f c' hl hgd => (by exact (fe_call (ps := ["low", "high"]) (takes_of rfl rfl rfl rfl) (ok_simplest Fa B) hl (by decide) hgd Fa.m_simplest Fa.k_simplest Fa.b_simplest (by exact (by exact fa_cons (by exact (fe_tup (by exact (by exact fa_cons (by exact fe_int) (by exact fa_cons (by exact fe_int) fa_nil))))) (by exact fa_cons (by exact (fe_tup (by exact (by exact fa_cons (by exact fe_int) (by exact fa_cons (by exact fe_int) fa_nil))))) fa_nil)))))))) (by exact (fe_tup (by exact (by exact fa_cons (by exact fe_str) (by exact fa_cons (by exact fe_str) fa_nil))))) rfl)))))))))))))))
end
end K01
end
section
set_option Elab.async false
set_option linter.all false
set_option maxRecDepth 100000
set_option maxHeartbeats 8000000
open PySem PySem.Spec PyProof.Rows L2 LamX FL
namespace K01
theorem look_mem {α β : Type} [BEq α] [LawfulBEq α] : ∀ {l : List (α × β)} {a : α} {b : β}, l.lookup a = some b → (a, b) ∈ l
  | [], _, _, h => by cases h
  | (x, y) :: l, a, b, h => by
    simp only [List.lookup] at h
    split at h
    · rename_i q
      cases h
      cases eq_of_beq q
      exact List.mem_cons_self
    · exact List.mem_cons_of_mem _ (look_mem h)
theorem kit_ref {K : PySem.W.Frag} {a c : Addr} {b : Bool} (h2 : PySem.W.isClsIn K c = true) (h3 : PySem.W.typeIn K (.ref c) = some (.type "type")) (h4 : PySem.W.subIn K (.ref a) (.ref c) = some b) (h : b = true ∨ a ≠ c) : PySem.W.kitOne K (.ref a) (.ref c) = some b := by
  unfold PySem.W.kitOne
  by_cases e : a = c
  · subst e
    rw [if_pos (by simp)]
    rcases h with rfl | h
    · rfl
    · exact absurd rfl h
  · rw [if_neg (by simpa using e)]
    have h2' : (PySem.W.clsIn K c).isSome = true := h2
    show (if ((PySem.W.clsIn K c).isSome && PySem.W.typeIn K (.ref c) == some (.type "type")) = true then PySem.W.subIn K (.ref a) (.ref c) else none) = some b
    rw [h2', h3, if_pos (by rfl)]
    exact h4
theorem bindsD {K : PySem.W.Frag} {x : Str} {st : Stmt} {f : Addr} {fd : FuncData} {dV : Value} {C : Value → Prop} {ps : List Str} (F : FunA K x st f fd dV C)
    (h : ∀ (s : Shared) (us : List Value), K.In s.heap → us.length = ps.length → BindsTo s fd ⟨us, []⟩ (ps.zip us)) : Binds K fd ps [] := fun s us X hl => by
  rw [List.append_nil] at hl ⊢
  exact h s us X hl
theorem subX_cases (c c2 : Str) (b : Bool) (h : subX c c2 = some b) : (c = "BadNumber" ∧ c2 = "TooMany" ∧ b = false) ∨ (c = "BadNumber" ∧ c2 = "BadNumber" ∧ b = true) ∨ (c = "BadNumber" ∧ c2 = "BadValue" ∧ b = false) ∨ (c = "BadNumber" ∧ c2 = "Misfit" ∧ b = false) ∨ (c = "BadNumber" ∧ c2 = "Nothing" ∧ b = false) ∨ (c = "BadValue" ∧ c2 = "TooMany" ∧ b = false) ∨ (c = "BadValue" ∧ c2 = "BadNumber" ∧ b = false) ∨ (c = "BadValue" ∧ c2 = "BadValue" ∧ b = true) ∨ (c = "BadValue" ∧ c2 = "Misfit" ∧ b = false) ∨ (c = "BadValue" ∧ c2 = "Nothing" ∧ b = false) ∨ (c = "Misfit" ∧ c2 = "TooMany" ∧ b = false) ∨ (c = "Misfit" ∧ c2 = "BadNumber" ∧ b = false) ∨ (c = "Misfit" ∧ c2 = "BadValue" ∧ b = false) ∨ (c = "Misfit" ∧ c2 = "Misfit" ∧ b = true) ∨ (c = "Misfit" ∧ c2 = "Nothing" ∧ b = false) ∨ (c = "Nothing" ∧ c2 = "TooMany" ∧ b = false) ∨ (c = "Nothing" ∧ c2 = "BadNumber" ∧ b = false) ∨ (c = "Nothing" ∧ c2 = "BadValue" ∧ b = false) ∨ (c = "Nothing" ∧ c2 = "Misfit" ∧ b = false) ∨ (c = "Nothing" ∧ c2 = "Nothing" ∧ b = true) ∨ (c = "TooMany" ∧ c2 = "TooMany" ∧ b = true) ∨ (c = "TooMany" ∧ c2 = "BadNumber" ∧ b = false) ∨ (c = "TooMany" ∧ c2 = "BadValue" ∧ b = false) ∨ (c = "TooMany" ∧ c2 = "Misfit" ∧ b = false) ∨ (c = "TooMany" ∧ c2 = "Nothing" ∧ b = false) := by
  have z := look_mem h
  unfold subL at z
  simpa [and_assoc] using z
theorem isX_casesT (c : Str) (b : Bool) (h : isX c = some b) : (c = "BadNumber" ∧ b = true) ∨ (c = "BadValue" ∧ b = true) ∨ (c = "Misfit" ∧ b = true) ∨ (c = "Nothing" ∧ b = true) ∨ (c = "TooMany" ∧ b = true) := by
  have z := look_mem h
  unfold isL at z
  simpa using z
theorem xaX_cases (n c : Str) (h : n ∈ xaX c) : (n = "part" ∧ c = "BadNumber") ∨ (n = "part" ∧ c = "BadValue") ∨ (n = "part" ∧ c = "Misfit") ∨ (n = "part" ∧ c = "Nothing") ∨ (n = "what" ∧ c = "TooMany") ∨ (n = "most" ∧ c = "TooMany") := by
  unfold xaX at h
  cases q : xaL.lookup c with
  | none => rw [q] at h; simp at h
  | some l =>
    rw [q] at h
    have z := look_mem q
    unfold xaL at z
    simp at z h
    rcases z with ⟨rfl, rfl⟩ | ⟨rfl, rfl⟩ | ⟨rfl, rfl⟩ | ⟨rfl, rfl⟩ | ⟨rfl, rfl⟩ <;> simp_all
open PySem.W in
theorem done {P : Program} {w : World} {K : PySem.W.Frag} {h : Heap} {mg : Str → Option Value} {fa : Addr} (X : K.In h) (G : h.Ns mainGlobals mg) (hfa : mg "law" = some (.ref fa))
    (plain : ∀ ns : List Int, ns.length ≤ 63 → (∀ z ∈ ns, Builtin.Int.intBits z ≤ 1048576) → ∃ st, f_law [.ro (ns.map D.int)] [] = .ok (.bl true) st)
    {a_is_integer : Addr} {od_is_integer an_is_integer : Option Addr} {sl_is_integer : Array (Option Value)} {oc_is_integer kV_is_integer dc_is_integer pm_is_integer ct_is_integer : Value}
    {cd_is_integer : Value}
    {a_lowest : Addr} {od_lowest an_lowest : Option Addr} {sl_lowest : Array (Option Value)} {oc_lowest kV_lowest dc_lowest pm_lowest ct_lowest : Value}
    {cd_lowest : Value}
    {a_is_short : Addr} {od_is_short an_is_short : Option Addr} {sl_is_short : Array (Option Value)} {oc_is_short kV_is_short dc_is_short pm_is_short ct_is_short : Value}
    {cd_is_short : Value}
    {a_read_whole : Addr} {od_read_whole an_read_whole : Option Addr} {sl_read_whole : Array (Option Value)} {oc_read_whole kV_read_whole dc_read_whole pm_read_whole ct_read_whole : Value}
    {cd_read_whole : Value}
    {a_is_ratio : Addr} {od_is_ratio an_is_ratio : Option Addr} {sl_is_ratio : Array (Option Value)} {oc_is_ratio kV_is_ratio dc_is_ratio pm_is_ratio ct_is_ratio : Value}
    {cd_is_ratio : Value}
    {a_plus : Addr} {od_plus an_plus : Option Addr} {sl_plus : Array (Option Value)} {oc_plus kV_plus dc_plus pm_plus ct_plus : Value}
    {cd_plus : Value}
    {a_minus : Addr} {od_minus an_minus : Option Addr} {sl_minus : Array (Option Value)} {oc_minus kV_minus dc_minus pm_minus ct_minus : Value}
    {cd_minus : Value}
    {a_negated : Addr} {od_negated an_negated : Option Addr} {sl_negated : Array (Option Value)} {oc_negated kV_negated dc_negated pm_negated ct_negated : Value}
    {cd_negated : Value}
    {a_over : Addr} {od_over an_over : Option Addr} {sl_over : Array (Option Value)} {oc_over kV_over dc_over pm_over ct_over : Value}
    {cd_over : Value}
    {a_less : Addr} {od_less an_less : Option Addr} {sl_less : Array (Option Value)} {oc_less kV_less dc_less pm_less ct_less : Value}
    {cd_less : Value}
    {a_simplest_above : Addr} {od_simplest_above an_simplest_above : Option Addr} {sl_simplest_above : Array (Option Value)} {oc_simplest_above kV_simplest_above dc_simplest_above pm_simplest_above ct_simplest_above : Value}
    {cd_simplest_above : Value}
    {a_simplest : Addr} {od_simplest an_simplest : Option Addr} {sl_simplest : Array (Option Value)} {oc_simplest kV_simplest dc_simplest pm_simplest ct_simplest : Value}
    {cd_simplest : Value}
    {a_ratio_text : Addr} {od_ratio_text an_ratio_text : Option Addr} {sl_ratio_text : Array (Option Value)} {oc_ratio_text kV_ratio_text dc_ratio_text pm_ratio_text ct_ratio_text : Value}
    {cd_ratio_text : Value}
    {a_read_ratio : Addr} {od_read_ratio an_read_ratio : Option Addr} {sl_read_ratio : Array (Option Value)} {oc_read_ratio kV_read_ratio dc_read_ratio pm_read_ratio ct_read_ratio : Value}
    {cd_read_ratio : Value}
    {a_l_pen : Addr} {od_l_pen an_l_pen : Option Addr} {sl_l_pen : Array (Option Value)} {oc_l_pen kV_l_pen dc_l_pen pm_l_pen ct_l_pen : Value}
    {cd_l_pen : Value}
    {a_l_draw : Addr} {od_l_draw an_l_draw : Option Addr} {sl_l_draw : Array (Option Value)} {oc_l_draw kV_l_draw dc_l_draw pm_l_draw ct_l_draw : Value}
    {cd_l_draw : Value}
    {a_l_pick : Addr} {od_l_pick an_l_pick : Option Addr} {sl_l_pick : Array (Option Value)} {oc_l_pick kV_l_pick dc_l_pick pm_l_pick ct_l_pick : Value}
    {cd_l_pick : Value}
    {a_l_heard : Addr} {od_l_heard an_l_heard : Option Addr} {sl_l_heard : Array (Option Value)} {oc_l_heard kV_l_heard dc_l_heard pm_l_heard ct_l_heard : Value}
    {cd_l_heard : Value}
    {a_l_shared : Addr} {od_l_shared an_l_shared : Option Addr} {sl_l_shared : Array (Option Value)} {oc_l_shared kV_l_shared dc_l_shared pm_l_shared ct_l_shared : Value}
    {cd_l_shared : Value}
    {a_l_lowest : Addr} {od_l_lowest an_l_lowest : Option Addr} {sl_l_lowest : Array (Option Value)} {oc_l_lowest kV_l_lowest dc_l_lowest pm_l_lowest ct_l_lowest : Value}
    {cd_l_lowest : Value}
    {a_l_whole : Addr} {od_l_whole an_l_whole : Option Addr} {sl_l_whole : Array (Option Value)} {oc_l_whole kV_l_whole dc_l_whole pm_l_whole ct_l_whole : Value}
    {cd_l_whole : Value}
    {a_l_read : Addr} {od_l_read an_l_read : Option Addr} {sl_l_read : Array (Option Value)} {oc_l_read kV_l_read dc_l_read pm_l_read ct_l_read : Value}
    {cd_l_read : Value}
    {a_l_bent : Addr} {od_l_bent an_l_bent : Option Addr} {sl_l_bent : Array (Option Value)} {oc_l_bent kV_l_bent dc_l_bent pm_l_bent ct_l_bent : Value}
    {cd_l_bent : Value}
    {a_l_simplest : Addr} {od_l_simplest an_l_simplest : Option Addr} {sl_l_simplest : Array (Option Value)} {oc_l_simplest kV_l_simplest dc_l_simplest pm_l_simplest ct_l_simplest : Value}
    {cd_l_simplest : Value}
    {a_law : Addr} {od_law an_law : Option Addr} {sl_law : Array (Option Value)} {oc_law kV_law dc_law pm_law ct_law : Value}
    {c_law P_law : Addr}
    {le_law : Value} {ld_law : Option Addr} {lv_law : Array Value} {ls_law : Array (Option Value)}
    {tFIGURES : Tok}
    {tMOST_FIGURES : Tok}
    {ca_ONE : Addr} {cd_ONE : Option Addr} {cn_ONE : Nat} {cs_ONE : Array (Option Value)} {ct_ONE_0 : Tok} {ct_ONE_1 : Tok}
    {ca_ZERO : Addr} {cd_ZERO : Option Addr} {cn_ZERO : Nat} {cs_ZERO : Array (Option Value)} {ct_ZERO_0 : Tok} {ct_ZERO_1 : Tok}
    {C_BadNumber : Addr}
    {C_BadValue : Addr}
    {C_Misfit : Addr}
    {C_Nothing : Addr}
    {C_TooMany : Addr}
    {C_WorldError : Addr}
    {nm_BadNumber qn_BadNumber : Str} {N_BadNumber : Addr} {bs_BadNumber bm_BadNumber : List Value} {sn_BadNumber : List Str} {su_BadNumber : List Value} {ab_BadNumber : Bool} {cl_BadNumber : Option Bool} {dd_BadNumber : Option Addr} {m0_BadNumber m1_BadNumber m2_BadNumber m3_BadNumber m5_BadNumber : Option Value}
    {fI_PartError ca_PartError cc_PartError D_PartError : Addr} {io_PartError : Value} {id_PartError : Option Addr} {is_PartError : Array (Option Value)} {iq_PartError : Str} {ic_PartError ip_PartError : Value} {ia_PartError : Option Addr} {it_PartError : Value}
    {a1_PartError a2_PartError p1_PartError p2_PartError p3_PartError p4_PartError p5_PartError p6_PartError q1_PartError q2_PartError q3_PartError q4_PartError : Pos}
    {ik_PartError : Value} {ie_PartError : Option Addr} {iv_PartError : Array Value} {iw_PartError : Array (Option Value)} {if_PartError : Str} {ig_PartError : Tok}
    {ix_PartError : Value} {iy_PartError : Option Addr} {iz_PartError : Array (Option Value)} {ij_PartError : ClassData}
    {nm_BadValue qn_BadValue : Str} {N_BadValue : Addr} {bs_BadValue bm_BadValue : List Value} {sn_BadValue : List Str} {su_BadValue : List Value} {ab_BadValue : Bool} {cl_BadValue : Option Bool} {dd_BadValue : Option Addr} {m0_BadValue m1_BadValue m2_BadValue m3_BadValue m5_BadValue : Option Value}
    {nm_Misfit qn_Misfit : Str} {N_Misfit : Addr} {bs_Misfit bm_Misfit : List Value} {sn_Misfit : List Str} {su_Misfit : List Value} {ab_Misfit : Bool} {cl_Misfit : Option Bool} {dd_Misfit : Option Addr} {m0_Misfit m1_Misfit m2_Misfit m3_Misfit m5_Misfit : Option Value}
    {nm_Nothing qn_Nothing : Str} {N_Nothing : Addr} {bs_Nothing bm_Nothing : List Value} {sn_Nothing : List Str} {su_Nothing : List Value} {ab_Nothing : Bool} {cl_Nothing : Option Bool} {dd_Nothing : Option Addr} {m0_Nothing m1_Nothing m2_Nothing m3_Nothing m5_Nothing : Option Value}
    {nm_TooMany qn_TooMany : Str} {N_TooMany : Addr} {bs_TooMany bm_TooMany : List Value} {sn_TooMany : List Str} {su_TooMany : List Value} {ab_TooMany : Bool} {cl_TooMany : Option Bool} {dd_TooMany : Option Addr} {m0_TooMany m1_TooMany m2_TooMany m3_TooMany m5_TooMany : Option Value}
    {fI_TooMany ca_TooMany cc_TooMany D_TooMany : Addr} {io_TooMany : Value} {id_TooMany : Option Addr} {is_TooMany : Array (Option Value)} {iq_TooMany : Str} {ic_TooMany ip_TooMany : Value} {ia_TooMany : Option Addr} {it_TooMany : Value}
    {a1_TooMany a2_TooMany a3_TooMany p1_TooMany p2_TooMany p3_TooMany p4_TooMany p5_TooMany p6_TooMany p7_TooMany q1_TooMany q2_TooMany q3_TooMany q4_TooMany r1_TooMany r2_TooMany r3_TooMany r4_TooMany : Pos}
    {ik_TooMany : Value} {ie_TooMany : Option Addr} {iv_TooMany : Array Value} {iw_TooMany : Array (Option Value)} {if_TooMany : Str} {ig_TooMany : Tok}
    {ix_TooMany : Value} {iy_TooMany : Option Addr} {iz_TooMany : Array (Option Value)} {ij_TooMany : ClassData}
    (na_is_integer : PySem.W.nsIn K mainGlobals "is_integer" = some (some (.ref a_is_integer)))
    (lo_is_integer : K.lookup a_is_integer = some ⟨oc_is_integer, od_is_integer, .func (PySem.W.fnOf "is_integer" "is_integer" (defArgs s_is_integer) (defBody s_is_integer) (defScope s_is_integer) .none kV_is_integer dc_is_integer pm_is_integer an_is_integer cd_is_integer ct_is_integer), sl_is_integer⟩)
    (co_is_integer : PySem.W.codeIn K cd_is_integer "is_integer" = true)
    (kp_is_integer : PySem.W.keepIn K (.ref a_is_integer) = true)
    (na_lowest : PySem.W.nsIn K mainGlobals "lowest" = some (some (.ref a_lowest)))
    (lo_lowest : K.lookup a_lowest = some ⟨oc_lowest, od_lowest, .func (PySem.W.fnOf "lowest" "lowest" (defArgs s_lowest) (defBody s_lowest) (defScope s_lowest) .none kV_lowest dc_lowest pm_lowest an_lowest cd_lowest ct_lowest), sl_lowest⟩)
    (co_lowest : PySem.W.codeIn K cd_lowest "lowest" = true)
    (kp_lowest : PySem.W.keepIn K (.ref a_lowest) = true)
    (na_is_short : PySem.W.nsIn K mainGlobals "is_short" = some (some (.ref a_is_short)))
    (lo_is_short : K.lookup a_is_short = some ⟨oc_is_short, od_is_short, .func (PySem.W.fnOf "is_short" "is_short" (defArgs s_is_short) (defBody s_is_short) (defScope s_is_short) .none kV_is_short dc_is_short pm_is_short an_is_short cd_is_short ct_is_short), sl_is_short⟩)
    (co_is_short : PySem.W.codeIn K cd_is_short "is_short" = true)
    (kp_is_short : PySem.W.keepIn K (.ref a_is_short) = true)
    (na_read_whole : PySem.W.nsIn K mainGlobals "read_whole" = some (some (.ref a_read_whole)))
    (lo_read_whole : K.lookup a_read_whole = some ⟨oc_read_whole, od_read_whole, .func (PySem.W.fnOf "read_whole" "read_whole" (defArgs s_read_whole) (defBody s_read_whole) (defScope s_read_whole) .none kV_read_whole dc_read_whole pm_read_whole an_read_whole cd_read_whole ct_read_whole), sl_read_whole⟩)
    (co_read_whole : PySem.W.codeIn K cd_read_whole "read_whole" = true)
    (kp_read_whole : PySem.W.keepIn K (.ref a_read_whole) = true)
    (na_is_ratio : PySem.W.nsIn K mainGlobals "is_ratio" = some (some (.ref a_is_ratio)))
    (lo_is_ratio : K.lookup a_is_ratio = some ⟨oc_is_ratio, od_is_ratio, .func (PySem.W.fnOf "is_ratio" "is_ratio" (defArgs s_is_ratio) (defBody s_is_ratio) (defScope s_is_ratio) .none kV_is_ratio dc_is_ratio pm_is_ratio an_is_ratio cd_is_ratio ct_is_ratio), sl_is_ratio⟩)
    (co_is_ratio : PySem.W.codeIn K cd_is_ratio "is_ratio" = true)
    (kp_is_ratio : PySem.W.keepIn K (.ref a_is_ratio) = true)
    (na_plus : PySem.W.nsIn K mainGlobals "plus" = some (some (.ref a_plus)))
    (lo_plus : K.lookup a_plus = some ⟨oc_plus, od_plus, .func (PySem.W.fnOf "plus" "plus" (defArgs s_plus) (defBody s_plus) (defScope s_plus) .none kV_plus dc_plus pm_plus an_plus cd_plus ct_plus), sl_plus⟩)
    (co_plus : PySem.W.codeIn K cd_plus "plus" = true)
    (kp_plus : PySem.W.keepIn K (.ref a_plus) = true)
    (na_minus : PySem.W.nsIn K mainGlobals "minus" = some (some (.ref a_minus)))
    (lo_minus : K.lookup a_minus = some ⟨oc_minus, od_minus, .func (PySem.W.fnOf "minus" "minus" (defArgs s_minus) (defBody s_minus) (defScope s_minus) .none kV_minus dc_minus pm_minus an_minus cd_minus ct_minus), sl_minus⟩)
    (co_minus : PySem.W.codeIn K cd_minus "minus" = true)
    (kp_minus : PySem.W.keepIn K (.ref a_minus) = true)
    (na_negated : PySem.W.nsIn K mainGlobals "negated" = some (some (.ref a_negated)))
    (lo_negated : K.lookup a_negated = some ⟨oc_negated, od_negated, .func (PySem.W.fnOf "negated" "negated" (defArgs s_negated) (defBody s_negated) (defScope s_negated) .none kV_negated dc_negated pm_negated an_negated cd_negated ct_negated), sl_negated⟩)
    (co_negated : PySem.W.codeIn K cd_negated "negated" = true)
    (kp_negated : PySem.W.keepIn K (.ref a_negated) = true)
    (na_over : PySem.W.nsIn K mainGlobals "over" = some (some (.ref a_over)))
    (lo_over : K.lookup a_over = some ⟨oc_over, od_over, .func (PySem.W.fnOf "over" "over" (defArgs s_over) (defBody s_over) (defScope s_over) .none kV_over dc_over pm_over an_over cd_over ct_over), sl_over⟩)
    (co_over : PySem.W.codeIn K cd_over "over" = true)
    (kp_over : PySem.W.keepIn K (.ref a_over) = true)
    (na_less : PySem.W.nsIn K mainGlobals "less" = some (some (.ref a_less)))
    (lo_less : K.lookup a_less = some ⟨oc_less, od_less, .func (PySem.W.fnOf "less" "less" (defArgs s_less) (defBody s_less) (defScope s_less) .none kV_less dc_less pm_less an_less cd_less ct_less), sl_less⟩)
    (co_less : PySem.W.codeIn K cd_less "less" = true)
    (kp_less : PySem.W.keepIn K (.ref a_less) = true)
    (na_simplest_above : PySem.W.nsIn K mainGlobals "simplest_above" = some (some (.ref a_simplest_above)))
    (lo_simplest_above : K.lookup a_simplest_above = some ⟨oc_simplest_above, od_simplest_above, .func (PySem.W.fnOf "simplest_above" "simplest_above" (defArgs s_simplest_above) (defBody s_simplest_above) (defScope s_simplest_above) .none kV_simplest_above dc_simplest_above pm_simplest_above an_simplest_above cd_simplest_above ct_simplest_above), sl_simplest_above⟩)
    (co_simplest_above : PySem.W.codeIn K cd_simplest_above "simplest_above" = true)
    (kp_simplest_above : PySem.W.keepIn K (.ref a_simplest_above) = true)
    (na_simplest : PySem.W.nsIn K mainGlobals "simplest" = some (some (.ref a_simplest)))
    (lo_simplest : K.lookup a_simplest = some ⟨oc_simplest, od_simplest, .func (PySem.W.fnOf "simplest" "simplest" (defArgs s_simplest) (defBody s_simplest) (defScope s_simplest) .none kV_simplest dc_simplest pm_simplest an_simplest cd_simplest ct_simplest), sl_simplest⟩)
    (co_simplest : PySem.W.codeIn K cd_simplest "simplest" = true)
    (kp_simplest : PySem.W.keepIn K (.ref a_simplest) = true)
    (na_ratio_text : PySem.W.nsIn K mainGlobals "ratio_text" = some (some (.ref a_ratio_text)))
    (lo_ratio_text : K.lookup a_ratio_text = some ⟨oc_ratio_text, od_ratio_text, .func (PySem.W.fnOf "ratio_text" "ratio_text" (defArgs s_ratio_text) (defBody s_ratio_text) (defScope s_ratio_text) .none kV_ratio_text dc_ratio_text pm_ratio_text an_ratio_text cd_ratio_text ct_ratio_text), sl_ratio_text⟩)
    (co_ratio_text : PySem.W.codeIn K cd_ratio_text "ratio_text" = true)
    (kp_ratio_text : PySem.W.keepIn K (.ref a_ratio_text) = true)
    (na_read_ratio : PySem.W.nsIn K mainGlobals "read_ratio" = some (some (.ref a_read_ratio)))
    (lo_read_ratio : K.lookup a_read_ratio = some ⟨oc_read_ratio, od_read_ratio, .func (PySem.W.fnOf "read_ratio" "read_ratio" (defArgs s_read_ratio) (defBody s_read_ratio) (defScope s_read_ratio) .none kV_read_ratio dc_read_ratio pm_read_ratio an_read_ratio cd_read_ratio ct_read_ratio), sl_read_ratio⟩)
    (co_read_ratio : PySem.W.codeIn K cd_read_ratio "read_ratio" = true)
    (kp_read_ratio : PySem.W.keepIn K (.ref a_read_ratio) = true)
    (na_l_pen : PySem.W.nsIn K mainGlobals "_law_pen" = some (some (.ref a_l_pen)))
    (lo_l_pen : K.lookup a_l_pen = some ⟨oc_l_pen, od_l_pen, .func (PySem.W.fnOf "_law_pen" "_law_pen" (defArgs s_l_pen) (defBody s_l_pen) (defScope s_l_pen) .none kV_l_pen dc_l_pen pm_l_pen an_l_pen cd_l_pen ct_l_pen), sl_l_pen⟩)
    (co_l_pen : PySem.W.codeIn K cd_l_pen "_law_pen" = true)
    (kp_l_pen : PySem.W.keepIn K (.ref a_l_pen) = true)
    (na_l_draw : PySem.W.nsIn K mainGlobals "_law_draw" = some (some (.ref a_l_draw)))
    (lo_l_draw : K.lookup a_l_draw = some ⟨oc_l_draw, od_l_draw, .func (PySem.W.fnOf "_law_draw" "_law_draw" (defArgs s_l_draw) (defBody s_l_draw) (defScope s_l_draw) .none kV_l_draw dc_l_draw pm_l_draw an_l_draw cd_l_draw ct_l_draw), sl_l_draw⟩)
    (co_l_draw : PySem.W.codeIn K cd_l_draw "_law_draw" = true)
    (kp_l_draw : PySem.W.keepIn K (.ref a_l_draw) = true)
    (na_l_pick : PySem.W.nsIn K mainGlobals "_law_pick" = some (some (.ref a_l_pick)))
    (lo_l_pick : K.lookup a_l_pick = some ⟨oc_l_pick, od_l_pick, .func (PySem.W.fnOf "_law_pick" "_law_pick" (defArgs s_l_pick) (defBody s_l_pick) (defScope s_l_pick) .none kV_l_pick dc_l_pick pm_l_pick an_l_pick cd_l_pick ct_l_pick), sl_l_pick⟩)
    (co_l_pick : PySem.W.codeIn K cd_l_pick "_law_pick" = true)
    (kp_l_pick : PySem.W.keepIn K (.ref a_l_pick) = true)
    (na_l_heard : PySem.W.nsIn K mainGlobals "_law_heard" = some (some (.ref a_l_heard)))
    (lo_l_heard : K.lookup a_l_heard = some ⟨oc_l_heard, od_l_heard, .func (PySem.W.fnOf "_law_heard" "_law_heard" (defArgs s_l_heard) (defBody s_l_heard) (defScope s_l_heard) .none kV_l_heard dc_l_heard pm_l_heard an_l_heard cd_l_heard ct_l_heard), sl_l_heard⟩)
    (co_l_heard : PySem.W.codeIn K cd_l_heard "_law_heard" = true)
    (kp_l_heard : PySem.W.keepIn K (.ref a_l_heard) = true)
    (na_l_shared : PySem.W.nsIn K mainGlobals "_law_shared" = some (some (.ref a_l_shared)))
    (lo_l_shared : K.lookup a_l_shared = some ⟨oc_l_shared, od_l_shared, .func (PySem.W.fnOf "_law_shared" "_law_shared" (defArgs s_l_shared) (defBody s_l_shared) (defScope s_l_shared) .none kV_l_shared dc_l_shared pm_l_shared an_l_shared cd_l_shared ct_l_shared), sl_l_shared⟩)
    (co_l_shared : PySem.W.codeIn K cd_l_shared "_law_shared" = true)
    (kp_l_shared : PySem.W.keepIn K (.ref a_l_shared) = true)
    (na_l_lowest : PySem.W.nsIn K mainGlobals "_law_lowest" = some (some (.ref a_l_lowest)))
    (lo_l_lowest : K.lookup a_l_lowest = some ⟨oc_l_lowest, od_l_lowest, .func (PySem.W.fnOf "_law_lowest" "_law_lowest" (defArgs s_l_lowest) (defBody s_l_lowest) (defScope s_l_lowest) .none kV_l_lowest dc_l_lowest pm_l_lowest an_l_lowest cd_l_lowest ct_l_lowest), sl_l_lowest⟩)
    (co_l_lowest : PySem.W.codeIn K cd_l_lowest "_law_lowest" = true)
    (kp_l_lowest : PySem.W.keepIn K (.ref a_l_lowest) = true)
    (na_l_whole : PySem.W.nsIn K mainGlobals "_law_whole" = some (some (.ref a_l_whole)))
    (lo_l_whole : K.lookup a_l_whole = some ⟨oc_l_whole, od_l_whole, .func (PySem.W.fnOf "_law_whole" "_law_whole" (defArgs s_l_whole) (defBody s_l_whole) (defScope s_l_whole) .none kV_l_whole dc_l_whole pm_l_whole an_l_whole cd_l_whole ct_l_whole), sl_l_whole⟩)
    (co_l_whole : PySem.W.codeIn K cd_l_whole "_law_whole" = true)
    (kp_l_whole : PySem.W.keepIn K (.ref a_l_whole) = true)
    (na_l_read : PySem.W.nsIn K mainGlobals "_law_read" = some (some (.ref a_l_read)))
    (lo_l_read : K.lookup a_l_read = some ⟨oc_l_read, od_l_read, .func (PySem.W.fnOf "_law_read" "_law_read" (defArgs s_l_read) (defBody s_l_read) (defScope s_l_read) .none kV_l_read dc_l_read pm_l_read an_l_read cd_l_read ct_l_read), sl_l_read⟩)
    (co_l_read : PySem.W.codeIn K cd_l_read "_law_read" = true)
    (kp_l_read : PySem.W.keepIn K (.ref a_l_read) = true)
    (na_l_bent : PySem.W.nsIn K mainGlobals "_law_bent" = some (some (.ref a_l_bent)))
    (lo_l_bent : K.lookup a_l_bent = some ⟨oc_l_bent, od_l_bent, .func (PySem.W.fnOf "_law_bent" "_law_bent" (defArgs s_l_bent) (defBody s_l_bent) (defScope s_l_bent) .none kV_l_bent dc_l_bent pm_l_bent an_l_bent cd_l_bent ct_l_bent), sl_l_bent⟩)
    (co_l_bent : PySem.W.codeIn K cd_l_bent "_law_bent" = true)
    (kp_l_bent : PySem.W.keepIn K (.ref a_l_bent) = true)
    (na_l_simplest : PySem.W.nsIn K mainGlobals "_law_simplest" = some (some (.ref a_l_simplest)))
    (lo_l_simplest : K.lookup a_l_simplest = some ⟨oc_l_simplest, od_l_simplest, .func (PySem.W.fnOf "_law_simplest" "_law_simplest" (defArgs s_l_simplest) (defBody s_l_simplest) (defScope s_l_simplest) .none kV_l_simplest dc_l_simplest pm_l_simplest an_l_simplest cd_l_simplest ct_l_simplest), sl_l_simplest⟩)
    (co_l_simplest : PySem.W.codeIn K cd_l_simplest "_law_simplest" = true)
    (kp_l_simplest : PySem.W.keepIn K (.ref a_l_simplest) = true)
    (na_law : PySem.W.nsIn K mainGlobals "law" = some (some (.ref a_law)))
    (lo_law : K.lookup a_law = some ⟨oc_law, od_law, .func (PySem.W.fnOf "law" "law" (defArgs s_law) (defBody s_law) (defScope s_law) .none kV_law dc_law pm_law an_law (.ref c_law) ct_law), sl_law⟩)
    (co_law : PySem.W.codeIn K (.ref c_law) "law" = true)
    (kp_law : PySem.W.keepIn K (.ref a_law) = true)
    (lc_law : K.lookup c_law = some ⟨le_law, ld_law, .fields lv_law, ls_law⟩)
    (lp_law : lv_law[11]? = some (.ref P_law))
    (ln_law : K.lookup P_law = none)
    (lt_law : ∀ b, mg "law" = some (.ref b) → TabFact K b h)
    (nk_FIGURES : PySem.W.nsIn K mainGlobals "FIGURES" = some (some (.str "0123456789" tFIGURES)))
    (nk_MOST_FIGURES : PySem.W.nsIn K mainGlobals "MOST_FIGURES" = some (some (.int 2000 tMOST_FIGURES)))
    (nk_ONE : PySem.W.nsIn K mainGlobals "ONE" = some (some (.ref ca_ONE)))
    (co_ONE : K.lookup ca_ONE = some ⟨.type "tuple", cd_ONE, .seq [.int 1 ct_ONE_0, .int 1 ct_ONE_1].toArray cn_ONE, cs_ONE⟩)
    (nk_ZERO : PySem.W.nsIn K mainGlobals "ZERO" = some (some (.ref ca_ZERO)))
    (co_ZERO : K.lookup ca_ZERO = some ⟨.type "tuple", cd_ZERO, .seq [.int 0 ct_ZERO_0, .int 1 ct_ZERO_1].toArray cn_ZERO, cs_ZERO⟩)
    (nz_abs : PySem.W.nsIn K mainGlobals "abs" = some none)
    (nz_all : PySem.W.nsIn K mainGlobals "all" = some none)
    (nz_bool : PySem.W.nsIn K mainGlobals "bool" = some none)
    (nz_int : PySem.W.nsIn K mainGlobals "int" = some none)
    (nz_isinstance : PySem.W.nsIn K mainGlobals "isinstance" = some none)
    (nz_len : PySem.W.nsIn K mainGlobals "len" = some none)
    (nz_range : PySem.W.nsIn K mainGlobals "range" = some none)
    (nz_repr : PySem.W.nsIn K mainGlobals "repr" = some none)
    (nz_str : PySem.W.nsIn K mainGlobals "str" = some none)
    (nz_tuple : PySem.W.nsIn K mainGlobals "tuple" = some none)
    (ng_gcd : PySem.W.nsIn K mainGlobals "gcd" = some (some (.builtin "math.gcd")))
    (nc_BadNumber : PySem.W.nsIn K mainGlobals "BadNumber" = some (some (.ref C_BadNumber)))
    (xb_BadNumber : PySem.W.subIn K (.ref C_BadNumber) (.type "BaseException") = some true)
    (xt_BadNumber : PySem.W.typeIn K (.ref C_BadNumber) = some (.type "type"))
    (xh_BadNumber : PySem.W.hasDictIn K C_BadNumber = true)
    (xc_BadNumber : PySem.W.isClsIn K C_BadNumber = true)
    (nc_BadValue : PySem.W.nsIn K mainGlobals "BadValue" = some (some (.ref C_BadValue)))
    (xb_BadValue : PySem.W.subIn K (.ref C_BadValue) (.type "BaseException") = some true)
    (xt_BadValue : PySem.W.typeIn K (.ref C_BadValue) = some (.type "type"))
    (xh_BadValue : PySem.W.hasDictIn K C_BadValue = true)
    (xc_BadValue : PySem.W.isClsIn K C_BadValue = true)
    (nc_Misfit : PySem.W.nsIn K mainGlobals "Misfit" = some (some (.ref C_Misfit)))
    (xb_Misfit : PySem.W.subIn K (.ref C_Misfit) (.type "BaseException") = some true)
    (xt_Misfit : PySem.W.typeIn K (.ref C_Misfit) = some (.type "type"))
    (xh_Misfit : PySem.W.hasDictIn K C_Misfit = true)
    (xc_Misfit : PySem.W.isClsIn K C_Misfit = true)
    (nc_Nothing : PySem.W.nsIn K mainGlobals "Nothing" = some (some (.ref C_Nothing)))
    (xb_Nothing : PySem.W.subIn K (.ref C_Nothing) (.type "BaseException") = some true)
    (xt_Nothing : PySem.W.typeIn K (.ref C_Nothing) = some (.type "type"))
    (xh_Nothing : PySem.W.hasDictIn K C_Nothing = true)
    (xc_Nothing : PySem.W.isClsIn K C_Nothing = true)
    (nc_TooMany : PySem.W.nsIn K mainGlobals "TooMany" = some (some (.ref C_TooMany)))
    (xb_TooMany : PySem.W.subIn K (.ref C_TooMany) (.type "BaseException") = some true)
    (xt_TooMany : PySem.W.typeIn K (.ref C_TooMany) = some (.type "type"))
    (xh_TooMany : PySem.W.hasDictIn K C_TooMany = true)
    (xc_TooMany : PySem.W.isClsIn K C_TooMany = true)
    (nc_WorldError : PySem.W.nsIn K mainGlobals "WorldError" = some (some (.ref C_WorldError)))
    (xb_WorldError : PySem.W.subIn K (.ref C_WorldError) (.type "BaseException") = some true)
    (xt_WorldError : PySem.W.typeIn K (.ref C_WorldError) = some (.type "type"))
    (xh_WorldError : PySem.W.hasDictIn K C_WorldError = true)
    (xc_WorldError : PySem.W.isClsIn K C_WorldError = true)
    (ns_super : PySem.W.nsIn K mainGlobals "super" = some none)
    (ns_opq : PySem.W.nsIn K cStatics "thirdparty.any" = some none)
    (tm_super : (P.main.scope.names.lookup ("super" : Str)).isSome = false)
    (ob_n : PySem.W.specialIn K (.builtin "object.__class__") "__get__" = some (some (.builtin "getset_descriptor.__get__")))
    (ob_t : PySem.W.takesIn K (.builtin "object.__class__") = some true)
    (xl_BadNumber : K.lookup C_BadNumber = some (excClassObj nm_BadNumber qn_BadNumber C_BadNumber N_BadNumber bs_BadNumber bm_BadNumber true sn_BadNumber su_BadNumber ab_BadNumber cl_BadNumber dd_BadNumber m0_BadNumber m1_BadNumber m2_BadNumber m3_BadNumber m5_BadNumber "ValueError.__new__"))
    (xr_BadNumber : PySem.HandSPX.refsVE bm_BadNumber = true)
    (xs_BadNumber : PySem.W.findIn K (.ref C_BadNumber) "__setattr__" = some (some (.builtin "object.__setattr__")))
    (xg_BadNumber : PySem.W.findIn K (.ref C_BadNumber) "__getattribute__" = some (some (.builtin "BaseException.__getattribute__")))
    (xG_BadNumber : PySem.W.findIn K (.ref C_BadNumber) "__getattr__" = some none)
    (xk_BadNumber : PySem.W.findIn K (.ref C_BadNumber) "__class__" = some (some (.builtin "object.__class__")))
    (xo_BadNumber : PySem.W.mroIn K C_BadNumber (.type "object") = some true)
    (xv_BadNumber : PySem.W.subIn K (.ref C_BadNumber) (.type "ValueError") = some true)
    (xp_BadNumber : PySem.W.keepIn K (.ref C_BadNumber) = true)
    (fi_BadNumber : PySem.W.findIn K (.ref C_BadNumber) "__init__" = some (some (.ref fI_PartError)))
    (il_PartError : K.lookup fI_PartError = some ⟨io_PartError, id_PartError, .func (ksFn "__init__" iq_PartError (PySem.FLX.args1 "part" a1_PartError a2_PartError) [PySem.FLX.supS [.Name "part" p6_PartError] p1_PartError p2_PartError p3_PartError p4_PartError p5_PartError, PySem.FLX.setS "part" q1_PartError q2_PartError q3_PartError q4_PartError] (PySem.FLX.sco1 "part") .none .none ic_PartError ip_PartError ia_PartError (.ref ca_PartError) it_PartError cc_PartError), is_PartError⟩)
    (ic_PartError : PySem.W.codeIn K (.ref ca_PartError) iq_PartError = true)
    (ce_PartError : ∃ pl, ∀ L : Addr, PySem.FLX.CallE (ksEnv iq_PartError (PySem.FLX.sco1 "part") L fI_PartError (.ref ca_PartError) cc_PartError) [.Name "part" p6_PartError] p1_PartError p2_PartError p3_PartError p4_PartError pl)
    (it_PartError : PySem.W.typeIn K (.ref fI_PartError) = some (.type "function"))
    (ik_PartError : K.lookup ca_PartError = some ⟨ik_PartError, ie_PartError, .fields iv_PartError, iw_PartError⟩)
    (iv_PartError : iv_PartError[2]? = some (.str if_PartError ig_PartError))
    (ip_PartError : ((P.main.file : Str) == if_PartError) = true)
    (iy_PartError : K.lookup cc_PartError = some ⟨ix_PartError, iy_PartError, .cell (some (.ref D_PartError)), iz_PartError⟩)
    (ij_PartError : PySem.W.clsIn K D_PartError = some ij_PartError)
    (im_BadNumber : PySem.W.mroIn K C_BadNumber (.ref D_PartError) = some true)
    (iu_BadNumber : PySem.W.ks_superIn K C_BadNumber D_PartError "__init__" = some (some (.builtin "ValueError.__init__")))
    (no_BadNumber_part : PySem.W.findIn K (.ref C_BadNumber) "part" = some none)
    (xl_BadValue : K.lookup C_BadValue = some (excClassObj nm_BadValue qn_BadValue C_BadValue N_BadValue bs_BadValue bm_BadValue true sn_BadValue su_BadValue ab_BadValue cl_BadValue dd_BadValue m0_BadValue m1_BadValue m2_BadValue m3_BadValue m5_BadValue "ValueError.__new__"))
    (xr_BadValue : PySem.HandSPX.refsVE bm_BadValue = true)
    (xs_BadValue : PySem.W.findIn K (.ref C_BadValue) "__setattr__" = some (some (.builtin "object.__setattr__")))
    (xg_BadValue : PySem.W.findIn K (.ref C_BadValue) "__getattribute__" = some (some (.builtin "BaseException.__getattribute__")))
    (xG_BadValue : PySem.W.findIn K (.ref C_BadValue) "__getattr__" = some none)
    (xk_BadValue : PySem.W.findIn K (.ref C_BadValue) "__class__" = some (some (.builtin "object.__class__")))
    (xo_BadValue : PySem.W.mroIn K C_BadValue (.type "object") = some true)
    (xv_BadValue : PySem.W.subIn K (.ref C_BadValue) (.type "ValueError") = some true)
    (xp_BadValue : PySem.W.keepIn K (.ref C_BadValue) = true)
    (fi_BadValue : PySem.W.findIn K (.ref C_BadValue) "__init__" = some (some (.ref fI_PartError)))
    (im_BadValue : PySem.W.mroIn K C_BadValue (.ref D_PartError) = some true)
    (iu_BadValue : PySem.W.ks_superIn K C_BadValue D_PartError "__init__" = some (some (.builtin "ValueError.__init__")))
    (no_BadValue_part : PySem.W.findIn K (.ref C_BadValue) "part" = some none)
    (xl_Misfit : K.lookup C_Misfit = some (excClassObj nm_Misfit qn_Misfit C_Misfit N_Misfit bs_Misfit bm_Misfit true sn_Misfit su_Misfit ab_Misfit cl_Misfit dd_Misfit m0_Misfit m1_Misfit m2_Misfit m3_Misfit m5_Misfit "ValueError.__new__"))
    (xr_Misfit : PySem.HandSPX.refsVE bm_Misfit = true)
    (xs_Misfit : PySem.W.findIn K (.ref C_Misfit) "__setattr__" = some (some (.builtin "object.__setattr__")))
    (xg_Misfit : PySem.W.findIn K (.ref C_Misfit) "__getattribute__" = some (some (.builtin "BaseException.__getattribute__")))
    (xG_Misfit : PySem.W.findIn K (.ref C_Misfit) "__getattr__" = some none)
    (xk_Misfit : PySem.W.findIn K (.ref C_Misfit) "__class__" = some (some (.builtin "object.__class__")))
    (xo_Misfit : PySem.W.mroIn K C_Misfit (.type "object") = some true)
    (xv_Misfit : PySem.W.subIn K (.ref C_Misfit) (.type "ValueError") = some true)
    (xp_Misfit : PySem.W.keepIn K (.ref C_Misfit) = true)
    (fi_Misfit : PySem.W.findIn K (.ref C_Misfit) "__init__" = some (some (.ref fI_PartError)))
    (im_Misfit : PySem.W.mroIn K C_Misfit (.ref D_PartError) = some true)
    (iu_Misfit : PySem.W.ks_superIn K C_Misfit D_PartError "__init__" = some (some (.builtin "ValueError.__init__")))
    (no_Misfit_part : PySem.W.findIn K (.ref C_Misfit) "part" = some none)
    (xl_Nothing : K.lookup C_Nothing = some (excClassObj nm_Nothing qn_Nothing C_Nothing N_Nothing bs_Nothing bm_Nothing true sn_Nothing su_Nothing ab_Nothing cl_Nothing dd_Nothing m0_Nothing m1_Nothing m2_Nothing m3_Nothing m5_Nothing "ValueError.__new__"))
    (xr_Nothing : PySem.HandSPX.refsVE bm_Nothing = true)
    (xs_Nothing : PySem.W.findIn K (.ref C_Nothing) "__setattr__" = some (some (.builtin "object.__setattr__")))
    (xg_Nothing : PySem.W.findIn K (.ref C_Nothing) "__getattribute__" = some (some (.builtin "BaseException.__getattribute__")))
    (xG_Nothing : PySem.W.findIn K (.ref C_Nothing) "__getattr__" = some none)
    (xk_Nothing : PySem.W.findIn K (.ref C_Nothing) "__class__" = some (some (.builtin "object.__class__")))
    (xo_Nothing : PySem.W.mroIn K C_Nothing (.type "object") = some true)
    (xv_Nothing : PySem.W.subIn K (.ref C_Nothing) (.type "ValueError") = some true)
    (xp_Nothing : PySem.W.keepIn K (.ref C_Nothing) = true)
    (fi_Nothing : PySem.W.findIn K (.ref C_Nothing) "__init__" = some (some (.ref fI_PartError)))
    (im_Nothing : PySem.W.mroIn K C_Nothing (.ref D_PartError) = some true)
    (iu_Nothing : PySem.W.ks_superIn K C_Nothing D_PartError "__init__" = some (some (.builtin "ValueError.__init__")))
    (no_Nothing_part : PySem.W.findIn K (.ref C_Nothing) "part" = some none)
    (xl_TooMany : K.lookup C_TooMany = some (excClassObj nm_TooMany qn_TooMany C_TooMany N_TooMany bs_TooMany bm_TooMany true sn_TooMany su_TooMany ab_TooMany cl_TooMany dd_TooMany m0_TooMany m1_TooMany m2_TooMany m3_TooMany m5_TooMany "ValueError.__new__"))
    (xr_TooMany : PySem.HandSPX.refsVE bm_TooMany = true)
    (xs_TooMany : PySem.W.findIn K (.ref C_TooMany) "__setattr__" = some (some (.builtin "object.__setattr__")))
    (xg_TooMany : PySem.W.findIn K (.ref C_TooMany) "__getattribute__" = some (some (.builtin "BaseException.__getattribute__")))
    (xG_TooMany : PySem.W.findIn K (.ref C_TooMany) "__getattr__" = some none)
    (xk_TooMany : PySem.W.findIn K (.ref C_TooMany) "__class__" = some (some (.builtin "object.__class__")))
    (xo_TooMany : PySem.W.mroIn K C_TooMany (.type "object") = some true)
    (xv_TooMany : PySem.W.subIn K (.ref C_TooMany) (.type "ValueError") = some true)
    (xp_TooMany : PySem.W.keepIn K (.ref C_TooMany) = true)
    (fi_TooMany : PySem.W.findIn K (.ref C_TooMany) "__init__" = some (some (.ref fI_TooMany)))
    (il_TooMany : K.lookup fI_TooMany = some ⟨io_TooMany, id_TooMany, .func (ksFn "__init__" iq_TooMany (PySem.FLX.args2 "what" "most" a1_TooMany a2_TooMany a3_TooMany) [PySem.FLX.supS [.Name "what" p6_TooMany, .Name "most" p7_TooMany] p1_TooMany p2_TooMany p3_TooMany p4_TooMany p5_TooMany, PySem.FLX.setS "what" q1_TooMany q2_TooMany q3_TooMany q4_TooMany, PySem.FLX.setS "most" r1_TooMany r2_TooMany r3_TooMany r4_TooMany] (PySem.FLX.sco2 "what" "most") .none .none ic_TooMany ip_TooMany ia_TooMany (.ref ca_TooMany) it_TooMany cc_TooMany), is_TooMany⟩)
    (ic_TooMany : PySem.W.codeIn K (.ref ca_TooMany) iq_TooMany = true)
    (ce_TooMany : ∃ pl, ∀ L : Addr, PySem.FLX.CallE (ksEnv iq_TooMany (PySem.FLX.sco2 "what" "most") L fI_TooMany (.ref ca_TooMany) cc_TooMany) [.Name "what" p6_TooMany, .Name "most" p7_TooMany] p1_TooMany p2_TooMany p3_TooMany p4_TooMany pl)
    (it_TooMany : PySem.W.typeIn K (.ref fI_TooMany) = some (.type "function"))
    (ik_TooMany : K.lookup ca_TooMany = some ⟨ik_TooMany, ie_TooMany, .fields iv_TooMany, iw_TooMany⟩)
    (iv_TooMany : iv_TooMany[2]? = some (.str if_TooMany ig_TooMany))
    (ip_TooMany : ((P.main.file : Str) == if_TooMany) = true)
    (iy_TooMany : K.lookup cc_TooMany = some ⟨ix_TooMany, iy_TooMany, .cell (some (.ref D_TooMany)), iz_TooMany⟩)
    (ij_TooMany : PySem.W.clsIn K D_TooMany = some ij_TooMany)
    (im_TooMany : PySem.W.mroIn K C_TooMany (.ref D_TooMany) = some true)
    (iu_TooMany : PySem.W.ks_superIn K C_TooMany D_TooMany "__init__" = some (some (.builtin "ValueError.__init__")))
    (no_TooMany_what : PySem.W.findIn K (.ref C_TooMany) "what" = some none)
    (no_TooMany_most : PySem.W.findIn K (.ref C_TooMany) "most" = some none)
    (sb_BadNumber_TooMany : PySem.W.subIn K (.ref C_BadNumber) (.ref C_TooMany) = some false)
    (sb_BadNumber_BadNumber : PySem.W.subIn K (.ref C_BadNumber) (.ref C_BadNumber) = some true)
    (sb_BadNumber_BadValue : PySem.W.subIn K (.ref C_BadNumber) (.ref C_BadValue) = some false)
    (sb_BadNumber_Misfit : PySem.W.subIn K (.ref C_BadNumber) (.ref C_Misfit) = some false)
    (sb_BadNumber_Nothing : PySem.W.subIn K (.ref C_BadNumber) (.ref C_Nothing) = some false)
    (sw_BadNumber : PySem.W.subIn K (.ref C_BadNumber) (.ref C_WorldError) = some true)
    (sb_BadValue_TooMany : PySem.W.subIn K (.ref C_BadValue) (.ref C_TooMany) = some false)
    (sb_BadValue_BadNumber : PySem.W.subIn K (.ref C_BadValue) (.ref C_BadNumber) = some false)
    (sb_BadValue_BadValue : PySem.W.subIn K (.ref C_BadValue) (.ref C_BadValue) = some true)
    (sb_BadValue_Misfit : PySem.W.subIn K (.ref C_BadValue) (.ref C_Misfit) = some false)
    (sb_BadValue_Nothing : PySem.W.subIn K (.ref C_BadValue) (.ref C_Nothing) = some false)
    (sw_BadValue : PySem.W.subIn K (.ref C_BadValue) (.ref C_WorldError) = some true)
    (sb_Misfit_TooMany : PySem.W.subIn K (.ref C_Misfit) (.ref C_TooMany) = some false)
    (sb_Misfit_BadNumber : PySem.W.subIn K (.ref C_Misfit) (.ref C_BadNumber) = some false)
    (sb_Misfit_BadValue : PySem.W.subIn K (.ref C_Misfit) (.ref C_BadValue) = some false)
    (sb_Misfit_Misfit : PySem.W.subIn K (.ref C_Misfit) (.ref C_Misfit) = some true)
    (sb_Misfit_Nothing : PySem.W.subIn K (.ref C_Misfit) (.ref C_Nothing) = some false)
    (sw_Misfit : PySem.W.subIn K (.ref C_Misfit) (.ref C_WorldError) = some true)
    (sb_Nothing_TooMany : PySem.W.subIn K (.ref C_Nothing) (.ref C_TooMany) = some false)
    (sb_Nothing_BadNumber : PySem.W.subIn K (.ref C_Nothing) (.ref C_BadNumber) = some false)
    (sb_Nothing_BadValue : PySem.W.subIn K (.ref C_Nothing) (.ref C_BadValue) = some false)
    (sb_Nothing_Misfit : PySem.W.subIn K (.ref C_Nothing) (.ref C_Misfit) = some false)
    (sb_Nothing_Nothing : PySem.W.subIn K (.ref C_Nothing) (.ref C_Nothing) = some true)
    (sw_Nothing : PySem.W.subIn K (.ref C_Nothing) (.ref C_WorldError) = some true)
    (sb_TooMany_TooMany : PySem.W.subIn K (.ref C_TooMany) (.ref C_TooMany) = some true)
    (sb_TooMany_BadNumber : PySem.W.subIn K (.ref C_TooMany) (.ref C_BadNumber) = some false)
    (sb_TooMany_BadValue : PySem.W.subIn K (.ref C_TooMany) (.ref C_BadValue) = some false)
    (sb_TooMany_Misfit : PySem.W.subIn K (.ref C_TooMany) (.ref C_Misfit) = some false)
    (sb_TooMany_Nothing : PySem.W.subIn K (.ref C_TooMany) (.ref C_Nothing) = some false)
    (sw_TooMany : PySem.W.subIn K (.ref C_TooMany) (.ref C_WorldError) = some true)
    (ne_BadNumber_TooMany : C_BadNumber ≠ C_TooMany)
    (ne_BadNumber_BadValue : C_BadNumber ≠ C_BadValue)
    (ne_BadNumber_Misfit : C_BadNumber ≠ C_Misfit)
    (ne_BadNumber_Nothing : C_BadNumber ≠ C_Nothing)
    (ne_BadValue_TooMany : C_BadValue ≠ C_TooMany)
    (ne_BadValue_BadNumber : C_BadValue ≠ C_BadNumber)
    (ne_BadValue_Misfit : C_BadValue ≠ C_Misfit)
    (ne_BadValue_Nothing : C_BadValue ≠ C_Nothing)
    (ne_Misfit_TooMany : C_Misfit ≠ C_TooMany)
    (ne_Misfit_BadNumber : C_Misfit ≠ C_BadNumber)
    (ne_Misfit_BadValue : C_Misfit ≠ C_BadValue)
    (ne_Misfit_Nothing : C_Misfit ≠ C_Nothing)
    (ne_Nothing_TooMany : C_Nothing ≠ C_TooMany)
    (ne_Nothing_BadNumber : C_Nothing ≠ C_BadNumber)
    (ne_Nothing_BadValue : C_Nothing ≠ C_BadValue)
    (ne_Nothing_Misfit : C_Nothing ≠ C_Misfit)
    (ne_TooMany_BadNumber : C_TooMany ≠ C_BadNumber)
    (ne_TooMany_BadValue : C_TooMany ≠ C_BadValue)
    (ne_TooMany_Misfit : C_TooMany ≠ C_Misfit)
    (ne_TooMany_Nothing : C_TooMany ≠ C_Nothing)
    (Pne : [P_law].Nodup)
    : LawAt P w K 7 63 "script" mg fa h := by
  have ef : fa = a_law := by
    have e := hfa.symm.trans (PySem.W.mg_of X G na_law)
    cases e
    rfl
  rw [ef]
  have t_law := lt_law a_law (PySem.W.mg_of X G na_law) c_law P_law _ _ _ _ _ _ lo_law rfl rfl lc_law lp_law
  have F_is_integer : FunA K "is_integer" s_is_integer a_is_integer _ .none (fun _ => True) := ⟨_, _, _, _, _, _, _, _, _, rfl, lo_is_integer, co_is_integer, trivial⟩
  have b_is_integer : Binds K _ ["value"] [] := F_is_integer.binds (ps := ["value"]) fun _ _ _ _ _ _ us hl => match us, hl with | [_], _ => rfl
  have F_lowest : FunA K "lowest" s_lowest a_lowest _ .none (fun _ => True) := ⟨_, _, _, _, _, _, _, _, _, rfl, lo_lowest, co_lowest, trivial⟩
  have b_lowest : Binds K _ ["top", "bottom"] [] := F_lowest.binds (ps := ["top", "bottom"]) fun _ _ _ _ _ _ us hl => match us, hl with | [_, _], _ => rfl
  have F_is_short : FunA K "is_short" s_is_short a_is_short _ .none (fun _ => True) := ⟨_, _, _, _, _, _, _, _, _, rfl, lo_is_short, co_is_short, trivial⟩
  have b_is_short : Binds K _ ["number"] [] := F_is_short.binds (ps := ["number"]) fun _ _ _ _ _ _ us hl => match us, hl with | [_], _ => rfl
  have F_read_whole : FunA K "read_whole" s_read_whole a_read_whole _ .none (fun _ => True) := ⟨_, _, _, _, _, _, _, _, _, rfl, lo_read_whole, co_read_whole, trivial⟩
  have b_read_whole : Binds K _ ["word"] [] := F_read_whole.binds (ps := ["word"]) fun _ _ _ _ _ _ us hl => match us, hl with | [_], _ => rfl
  have F_is_ratio : FunA K "is_ratio" s_is_ratio a_is_ratio _ .none (fun _ => True) := ⟨_, _, _, _, _, _, _, _, _, rfl, lo_is_ratio, co_is_ratio, trivial⟩
  have b_is_ratio : Binds K _ ["value"] [] := F_is_ratio.binds (ps := ["value"]) fun _ _ _ _ _ _ us hl => match us, hl with | [_], _ => rfl
  have F_plus : FunA K "plus" s_plus a_plus _ .none (fun _ => True) := ⟨_, _, _, _, _, _, _, _, _, rfl, lo_plus, co_plus, trivial⟩
  have b_plus : Binds K _ ["one", "other"] [] := F_plus.binds (ps := ["one", "other"]) fun _ _ _ _ _ _ us hl => match us, hl with | [_, _], _ => rfl
  have F_minus : FunA K "minus" s_minus a_minus _ .none (fun _ => True) := ⟨_, _, _, _, _, _, _, _, _, rfl, lo_minus, co_minus, trivial⟩
  have b_minus : Binds K _ ["one", "other"] [] := F_minus.binds (ps := ["one", "other"]) fun _ _ _ _ _ _ us hl => match us, hl with | [_, _], _ => rfl
  have F_negated : FunA K "negated" s_negated a_negated _ .none (fun _ => True) := ⟨_, _, _, _, _, _, _, _, _, rfl, lo_negated, co_negated, trivial⟩
  have b_negated : Binds K _ ["one"] [] := F_negated.binds (ps := ["one"]) fun _ _ _ _ _ _ us hl => match us, hl with | [_], _ => rfl
  have F_over : FunA K "over" s_over a_over _ .none (fun _ => True) := ⟨_, _, _, _, _, _, _, _, _, rfl, lo_over, co_over, trivial⟩
  have b_over : Binds K _ ["one", "other"] [] := F_over.binds (ps := ["one", "other"]) fun _ _ _ _ _ _ us hl => match us, hl with | [_, _], _ => rfl
  have F_less : FunA K "less" s_less a_less _ .none (fun _ => True) := ⟨_, _, _, _, _, _, _, _, _, rfl, lo_less, co_less, trivial⟩
  have b_less : Binds K _ ["one", "other"] [] := F_less.binds (ps := ["one", "other"]) fun _ _ _ _ _ _ us hl => match us, hl with | [_, _], _ => rfl
  have F_simplest_above : FunA K "simplest_above" s_simplest_above a_simplest_above _ .none (fun _ => True) := ⟨_, _, _, _, _, _, _, _, _, rfl, lo_simplest_above, co_simplest_above, trivial⟩
  have b_simplest_above : Binds K _ ["low", "high"] [] := F_simplest_above.binds (ps := ["low", "high"]) fun _ _ _ _ _ _ us hl => match us, hl with | [_, _], _ => rfl
  have F_simplest : FunA K "simplest" s_simplest a_simplest _ .none (fun _ => True) := ⟨_, _, _, _, _, _, _, _, _, rfl, lo_simplest, co_simplest, trivial⟩
  have b_simplest : Binds K _ ["low", "high"] [] := F_simplest.binds (ps := ["low", "high"]) fun _ _ _ _ _ _ us hl => match us, hl with | [_, _], _ => rfl
  have F_ratio_text : FunA K "ratio_text" s_ratio_text a_ratio_text _ .none (fun _ => True) := ⟨_, _, _, _, _, _, _, _, _, rfl, lo_ratio_text, co_ratio_text, trivial⟩
  have b_ratio_text : Binds K _ ["one"] [] := F_ratio_text.binds (ps := ["one"]) fun _ _ _ _ _ _ us hl => match us, hl with | [_], _ => rfl
  have F_read_ratio : FunA K "read_ratio" s_read_ratio a_read_ratio _ .none (fun _ => True) := ⟨_, _, _, _, _, _, _, _, _, rfl, lo_read_ratio, co_read_ratio, trivial⟩
  have b_read_ratio : Binds K _ ["word"] [] := F_read_ratio.binds (ps := ["word"]) fun _ _ _ _ _ _ us hl => match us, hl with | [_], _ => rfl
  have F_l_pen : FunA K "_law_pen" s_l_pen a_l_pen _ .none (fun _ => True) := ⟨_, _, _, _, _, _, _, _, _, rfl, lo_l_pen, co_l_pen, trivial⟩
  have b_l_pen : Binds K _ ["script"] [] := F_l_pen.binds (ps := ["script"]) fun _ _ _ _ _ _ us hl => match us, hl with | [_], _ => rfl
  have F_l_draw : FunA K "_law_draw" s_l_draw a_l_draw _ .none (fun _ => True) := ⟨_, _, _, _, _, _, _, _, _, rfl, lo_l_draw, co_l_draw, trivial⟩
  have b_l_draw : Binds K _ ["pen", "many"] [] := F_l_draw.binds (ps := ["pen", "many"]) fun _ _ _ _ _ _ us hl => match us, hl with | [_, _], _ => rfl
  have F_l_pick : FunA K "_law_pick" s_l_pick a_l_pick _ .none (fun _ => True) := ⟨_, _, _, _, _, _, _, _, _, rfl, lo_l_pick, co_l_pick, trivial⟩
  have b_l_pick : Binds K _ ["pen", "some"] [] := F_l_pick.binds (ps := ["pen", "some"]) fun _ _ _ _ _ _ us hl => match us, hl with | [_, _], _ => rfl
  have F_l_heard : FunA K "_law_heard" s_l_heard a_l_heard _ .none (fun _ => True) := ⟨_, _, _, _, _, _, _, _, _, rfl, lo_l_heard, co_l_heard, trivial⟩
  have b_l_heard : Binds K _ ["ask"] [] := F_l_heard.binds (ps := ["ask"]) fun _ _ _ _ _ _ us hl => match us, hl with | [_], _ => rfl
  have F_l_shared : FunA K "_law_shared" s_l_shared a_l_shared _ .none (fun _ => True) := ⟨_, _, _, _, _, _, _, _, _, rfl, lo_l_shared, co_l_shared, trivial⟩
  have b_l_shared : Binds K _ ["one", "other"] [] := F_l_shared.binds (ps := ["one", "other"]) fun _ _ _ _ _ _ us hl => match us, hl with | [_, _], _ => rfl
  have F_l_lowest : FunA K "_law_lowest" s_l_lowest a_l_lowest _ .none (fun _ => True) := ⟨_, _, _, _, _, _, _, _, _, rfl, lo_l_lowest, co_l_lowest, trivial⟩
  have b_l_lowest : Binds K _ ["top", "bottom"] [] := F_l_lowest.binds (ps := ["top", "bottom"]) fun _ _ _ _ _ _ us hl => match us, hl with | [_, _], _ => rfl
  have F_l_whole : FunA K "_law_whole" s_l_whole a_l_whole _ .none (fun _ => True) := ⟨_, _, _, _, _, _, _, _, _, rfl, lo_l_whole, co_l_whole, trivial⟩
  have b_l_whole : Binds K _ ["word"] [] := F_l_whole.binds (ps := ["word"]) fun _ _ _ _ _ _ us hl => match us, hl with | [_], _ => rfl
  have F_l_read : FunA K "_law_read" s_l_read a_l_read _ .none (fun _ => True) := ⟨_, _, _, _, _, _, _, _, _, rfl, lo_l_read, co_l_read, trivial⟩
  have b_l_read : Binds K _ ["word"] [] := F_l_read.binds (ps := ["word"]) fun _ _ _ _ _ _ us hl => match us, hl with | [_], _ => rfl
  have F_l_bent : FunA K "_law_bent" s_l_bent a_l_bent _ .none (fun _ => True) := ⟨_, _, _, _, _, _, _, _, _, rfl, lo_l_bent, co_l_bent, trivial⟩
  have b_l_bent : Binds K _ ["pen"] [] := F_l_bent.binds (ps := ["pen"]) fun _ _ _ _ _ _ us hl => match us, hl with | [_], _ => rfl
  have F_l_simplest : FunA K "_law_simplest" s_l_simplest a_l_simplest _ .none (fun _ => True) := ⟨_, _, _, _, _, _, _, _, _, rfl, lo_l_simplest, co_l_simplest, trivial⟩
  have b_l_simplest : Binds K _ ["low", "high", "most"] [] := F_l_simplest.binds (ps := ["low", "high", "most"]) fun _ _ _ _ _ _ us hl => match us, hl with | [_, _, _], _ => rfl
  have F_law : FunA K "law" s_law a_law _ .none (fun v => v = .ref c_law) := ⟨_, _, _, _, _, _, _, _, _, rfl, lo_law, co_law, rfl⟩
  have b_law : Binds K _ ["script"] [] := F_law.binds (ps := ["script"]) fun _ _ _ _ _ _ us hl => match us, hl with | [_], _ => rfl
  have w_is_ratio_0_value : ∀ T, CallA K _ ["value"] (Gx.mk K T mg xaX) 0 ["value"] [.k 0] := fun T => F_is_ratio.form (fun _ _ _ _ _ _ s us ws X h1 h2 => match us, ws, h1, h2 with | [], [_], _, _ => .of_eq rfl) rfl (List.forall_mem_cons.mpr ⟨(by show _ < _; decide), fun _ hx => nomatch hx⟩)
  have w_simplest_0_high_low : ∀ T, CallA K _ ["low", "high"] (Gx.mk K T mg xaX) 0 ["high", "low"] [.k 1, .k 0] := fun T => F_simplest.form (fun _ _ _ _ _ _ s us ws X h1 h2 => match us, ws, h1, h2 with | [], [_, _], _, _ => .of_eq rfl) rfl (List.forall_mem_cons.mpr ⟨(by show _ < _; decide), List.forall_mem_cons.mpr ⟨(by show _ < _; decide), fun _ hx => nomatch hx⟩⟩)
  have s_BadNumber : PySem.FLX.SupTxt P K C_BadNumber D_PartError fI_PartError ca_PartError cc_PartError := ⟨⟨_, _, _, _, _, _, _, _, _, _, _, _, _, _, _, xl_BadNumber, xr_BadNumber⟩, xs_BadNumber, fi_BadNumber, it_PartError, xp_BadNumber, xb_BadNumber, xv_BadNumber, xt_BadNumber, ⟨_, _, _, _, _, _, ik_PartError, iv_PartError, ip_PartError⟩, ⟨_, _, _, iy_PartError⟩, ⟨_, ij_PartError⟩, im_BadNumber, iu_BadNumber, ns_opq, ns_super, tm_super⟩
  have T_BadNumber : PySem.FLX.Txt1 K fI_PartError ca_PartError cc_PartError "part" := ⟨⟨_, _, _, _, _, _, _, _, _, _, _, _, _, _, _, _, _, _, _, _, il_PartError, ic_PartError, fun s x v => .of_eq rfl, ce_PartError⟩⟩
  have x_BadNumber : ∀ X : Cx, X.prog = P → X.K = K → X.mg = mg → ExcOk X "BadNumber" C_BadNumber ["part"] := fun Y e1 e2 e3 => exc1 (by rw [e3]; exact PySem.W.mg_of X G nc_BadNumber) (by rw [e1, e2]; exact s_BadNumber) (by rw [e2]; exact T_BadNumber) (by rw [e3]; exact PySem.W.mg_none_of X G ns_super) (by rw [e2]; exact no_BadNumber_part)
  have E_BadNumber : ExcC K C_BadNumber := ⟨xg_BadNumber, xG_BadNumber, xb_BadNumber, xh_BadNumber, xk_BadNumber, ob_n, ob_t, xo_BadNumber⟩
  have Y_BadNumber : XfC K C_BadNumber := ⟨xg_BadNumber, xG_BadNumber, xb_BadNumber, xh_BadNumber⟩
  have s_BadValue : PySem.FLX.SupTxt P K C_BadValue D_PartError fI_PartError ca_PartError cc_PartError := ⟨⟨_, _, _, _, _, _, _, _, _, _, _, _, _, _, _, xl_BadValue, xr_BadValue⟩, xs_BadValue, fi_BadValue, it_PartError, xp_BadValue, xb_BadValue, xv_BadValue, xt_BadValue, ⟨_, _, _, _, _, _, ik_PartError, iv_PartError, ip_PartError⟩, ⟨_, _, _, iy_PartError⟩, ⟨_, ij_PartError⟩, im_BadValue, iu_BadValue, ns_opq, ns_super, tm_super⟩
  have T_BadValue : PySem.FLX.Txt1 K fI_PartError ca_PartError cc_PartError "part" := ⟨⟨_, _, _, _, _, _, _, _, _, _, _, _, _, _, _, _, _, _, _, _, il_PartError, ic_PartError, fun s x v => .of_eq rfl, ce_PartError⟩⟩
  have x_BadValue : ∀ X : Cx, X.prog = P → X.K = K → X.mg = mg → ExcOk X "BadValue" C_BadValue ["part"] := fun Y e1 e2 e3 => exc1 (by rw [e3]; exact PySem.W.mg_of X G nc_BadValue) (by rw [e1, e2]; exact s_BadValue) (by rw [e2]; exact T_BadValue) (by rw [e3]; exact PySem.W.mg_none_of X G ns_super) (by rw [e2]; exact no_BadValue_part)
  have E_BadValue : ExcC K C_BadValue := ⟨xg_BadValue, xG_BadValue, xb_BadValue, xh_BadValue, xk_BadValue, ob_n, ob_t, xo_BadValue⟩
  have Y_BadValue : XfC K C_BadValue := ⟨xg_BadValue, xG_BadValue, xb_BadValue, xh_BadValue⟩
  have s_Misfit : PySem.FLX.SupTxt P K C_Misfit D_PartError fI_PartError ca_PartError cc_PartError := ⟨⟨_, _, _, _, _, _, _, _, _, _, _, _, _, _, _, xl_Misfit, xr_Misfit⟩, xs_Misfit, fi_Misfit, it_PartError, xp_Misfit, xb_Misfit, xv_Misfit, xt_Misfit, ⟨_, _, _, _, _, _, ik_PartError, iv_PartError, ip_PartError⟩, ⟨_, _, _, iy_PartError⟩, ⟨_, ij_PartError⟩, im_Misfit, iu_Misfit, ns_opq, ns_super, tm_super⟩
  have T_Misfit : PySem.FLX.Txt1 K fI_PartError ca_PartError cc_PartError "part" := ⟨⟨_, _, _, _, _, _, _, _, _, _, _, _, _, _, _, _, _, _, _, _, il_PartError, ic_PartError, fun s x v => .of_eq rfl, ce_PartError⟩⟩
  have x_Misfit : ∀ X : Cx, X.prog = P → X.K = K → X.mg = mg → ExcOk X "Misfit" C_Misfit ["part"] := fun Y e1 e2 e3 => exc1 (by rw [e3]; exact PySem.W.mg_of X G nc_Misfit) (by rw [e1, e2]; exact s_Misfit) (by rw [e2]; exact T_Misfit) (by rw [e3]; exact PySem.W.mg_none_of X G ns_super) (by rw [e2]; exact no_Misfit_part)
  have E_Misfit : ExcC K C_Misfit := ⟨xg_Misfit, xG_Misfit, xb_Misfit, xh_Misfit, xk_Misfit, ob_n, ob_t, xo_Misfit⟩
  have Y_Misfit : XfC K C_Misfit := ⟨xg_Misfit, xG_Misfit, xb_Misfit, xh_Misfit⟩
  have s_Nothing : PySem.FLX.SupTxt P K C_Nothing D_PartError fI_PartError ca_PartError cc_PartError := ⟨⟨_, _, _, _, _, _, _, _, _, _, _, _, _, _, _, xl_Nothing, xr_Nothing⟩, xs_Nothing, fi_Nothing, it_PartError, xp_Nothing, xb_Nothing, xv_Nothing, xt_Nothing, ⟨_, _, _, _, _, _, ik_PartError, iv_PartError, ip_PartError⟩, ⟨_, _, _, iy_PartError⟩, ⟨_, ij_PartError⟩, im_Nothing, iu_Nothing, ns_opq, ns_super, tm_super⟩
  have T_Nothing : PySem.FLX.Txt1 K fI_PartError ca_PartError cc_PartError "part" := ⟨⟨_, _, _, _, _, _, _, _, _, _, _, _, _, _, _, _, _, _, _, _, il_PartError, ic_PartError, fun s x v => .of_eq rfl, ce_PartError⟩⟩
  have x_Nothing : ∀ X : Cx, X.prog = P → X.K = K → X.mg = mg → ExcOk X "Nothing" C_Nothing ["part"] := fun Y e1 e2 e3 => exc1 (by rw [e3]; exact PySem.W.mg_of X G nc_Nothing) (by rw [e1, e2]; exact s_Nothing) (by rw [e2]; exact T_Nothing) (by rw [e3]; exact PySem.W.mg_none_of X G ns_super) (by rw [e2]; exact no_Nothing_part)
  have E_Nothing : ExcC K C_Nothing := ⟨xg_Nothing, xG_Nothing, xb_Nothing, xh_Nothing, xk_Nothing, ob_n, ob_t, xo_Nothing⟩
  have Y_Nothing : XfC K C_Nothing := ⟨xg_Nothing, xG_Nothing, xb_Nothing, xh_Nothing⟩
  have s_TooMany : PySem.FLX.SupTxt P K C_TooMany D_TooMany fI_TooMany ca_TooMany cc_TooMany := ⟨⟨_, _, _, _, _, _, _, _, _, _, _, _, _, _, _, xl_TooMany, xr_TooMany⟩, xs_TooMany, fi_TooMany, it_TooMany, xp_TooMany, xb_TooMany, xv_TooMany, xt_TooMany, ⟨_, _, _, _, _, _, ik_TooMany, iv_TooMany, ip_TooMany⟩, ⟨_, _, _, iy_TooMany⟩, ⟨_, ij_TooMany⟩, im_TooMany, iu_TooMany, ns_opq, ns_super, tm_super⟩
  have T_TooMany : PySem.FLX.Txt2 K fI_TooMany ca_TooMany cc_TooMany "what" "most" := ⟨⟨_, _, _, _, _, _, _, _, _, _, _, _, _, _, _, _, _, _, _, _, _, _, _, _, _, _, il_TooMany, ic_TooMany, fun s x v y => .of_eq rfl, ce_TooMany⟩⟩
  have x_TooMany : ∀ X : Cx, X.prog = P → X.K = K → X.mg = mg → ExcOk X "TooMany" C_TooMany ["what", "most"] := fun Y e1 e2 e3 => exc2 (by rw [e3]; exact PySem.W.mg_of X G nc_TooMany) (by rw [e1, e2]; exact s_TooMany) (by rw [e2]; exact T_TooMany) (by rw [e3]; exact PySem.W.mg_none_of X G ns_super) (by rw [e2]; exact no_TooMany_what) (by rw [e2]; exact no_TooMany_most)
  have E_TooMany : ExcC K C_TooMany := ⟨xg_TooMany, xG_TooMany, xb_TooMany, xh_TooMany, xk_TooMany, ob_n, ob_t, xo_TooMany⟩
  have Y_TooMany : XfC K C_TooMany := ⟨xg_TooMany, xG_TooMany, xb_TooMany, xh_TooMany⟩
  have subK : ∀ (c c2 : Str) (b : Bool) (C C2 : Addr), subX c c2 = some b → mg c = some (.ref C) → mg c2 = some (.ref C2) → PySem.W.kitOne K (.ref C) (.ref C2) = some b ∧ ExcC K C := by
    intro c c2 b C C2 hs h1 h2
    rcases subX_cases c c2 b hs with ⟨rfl, rfl, rfl⟩ | ⟨rfl, rfl, rfl⟩ | ⟨rfl, rfl, rfl⟩ | ⟨rfl, rfl, rfl⟩ | ⟨rfl, rfl, rfl⟩ | ⟨rfl, rfl, rfl⟩ | ⟨rfl, rfl, rfl⟩ | ⟨rfl, rfl, rfl⟩ | ⟨rfl, rfl, rfl⟩ | ⟨rfl, rfl, rfl⟩ | ⟨rfl, rfl, rfl⟩ | ⟨rfl, rfl, rfl⟩ | ⟨rfl, rfl, rfl⟩ | ⟨rfl, rfl, rfl⟩ | ⟨rfl, rfl, rfl⟩ | ⟨rfl, rfl, rfl⟩ | ⟨rfl, rfl, rfl⟩ | ⟨rfl, rfl, rfl⟩ | ⟨rfl, rfl, rfl⟩ | ⟨rfl, rfl, rfl⟩ | ⟨rfl, rfl, rfl⟩ | ⟨rfl, rfl, rfl⟩ | ⟨rfl, rfl, rfl⟩ | ⟨rfl, rfl, rfl⟩ | ⟨rfl, rfl, rfl⟩
    · cases h1.symm.trans (PySem.W.mg_of X G nc_BadNumber)
      cases h2.symm.trans (PySem.W.mg_of X G nc_TooMany)
      exact ⟨kit_ref xc_TooMany xt_TooMany sb_BadNumber_TooMany (.inr ne_BadNumber_TooMany), E_BadNumber⟩
    · cases h1.symm.trans (PySem.W.mg_of X G nc_BadNumber)
      cases h2.symm.trans (PySem.W.mg_of X G nc_BadNumber)
      exact ⟨kit_ref xc_BadNumber xt_BadNumber sb_BadNumber_BadNumber (.inl rfl), E_BadNumber⟩
    · cases h1.symm.trans (PySem.W.mg_of X G nc_BadNumber)
      cases h2.symm.trans (PySem.W.mg_of X G nc_BadValue)
      exact ⟨kit_ref xc_BadValue xt_BadValue sb_BadNumber_BadValue (.inr ne_BadNumber_BadValue), E_BadNumber⟩
    · cases h1.symm.trans (PySem.W.mg_of X G nc_BadNumber)
      cases h2.symm.trans (PySem.W.mg_of X G nc_Misfit)
      exact ⟨kit_ref xc_Misfit xt_Misfit sb_BadNumber_Misfit (.inr ne_BadNumber_Misfit), E_BadNumber⟩
    · cases h1.symm.trans (PySem.W.mg_of X G nc_BadNumber)
      cases h2.symm.trans (PySem.W.mg_of X G nc_Nothing)
      exact ⟨kit_ref xc_Nothing xt_Nothing sb_BadNumber_Nothing (.inr ne_BadNumber_Nothing), E_BadNumber⟩
    · cases h1.symm.trans (PySem.W.mg_of X G nc_BadValue)
      cases h2.symm.trans (PySem.W.mg_of X G nc_TooMany)
      exact ⟨kit_ref xc_TooMany xt_TooMany sb_BadValue_TooMany (.inr ne_BadValue_TooMany), E_BadValue⟩
    · cases h1.symm.trans (PySem.W.mg_of X G nc_BadValue)
      cases h2.symm.trans (PySem.W.mg_of X G nc_BadNumber)
      exact ⟨kit_ref xc_BadNumber xt_BadNumber sb_BadValue_BadNumber (.inr ne_BadValue_BadNumber), E_BadValue⟩
    · cases h1.symm.trans (PySem.W.mg_of X G nc_BadValue)
      cases h2.symm.trans (PySem.W.mg_of X G nc_BadValue)
      exact ⟨kit_ref xc_BadValue xt_BadValue sb_BadValue_BadValue (.inl rfl), E_BadValue⟩
    · cases h1.symm.trans (PySem.W.mg_of X G nc_BadValue)
      cases h2.symm.trans (PySem.W.mg_of X G nc_Misfit)
      exact ⟨kit_ref xc_Misfit xt_Misfit sb_BadValue_Misfit (.inr ne_BadValue_Misfit), E_BadValue⟩
    · cases h1.symm.trans (PySem.W.mg_of X G nc_BadValue)
      cases h2.symm.trans (PySem.W.mg_of X G nc_Nothing)
      exact ⟨kit_ref xc_Nothing xt_Nothing sb_BadValue_Nothing (.inr ne_BadValue_Nothing), E_BadValue⟩
    · cases h1.symm.trans (PySem.W.mg_of X G nc_Misfit)
      cases h2.symm.trans (PySem.W.mg_of X G nc_TooMany)
      exact ⟨kit_ref xc_TooMany xt_TooMany sb_Misfit_TooMany (.inr ne_Misfit_TooMany), E_Misfit⟩
    · cases h1.symm.trans (PySem.W.mg_of X G nc_Misfit)
      cases h2.symm.trans (PySem.W.mg_of X G nc_BadNumber)
      exact ⟨kit_ref xc_BadNumber xt_BadNumber sb_Misfit_BadNumber (.inr ne_Misfit_BadNumber), E_Misfit⟩
    · cases h1.symm.trans (PySem.W.mg_of X G nc_Misfit)
      cases h2.symm.trans (PySem.W.mg_of X G nc_BadValue)
      exact ⟨kit_ref xc_BadValue xt_BadValue sb_Misfit_BadValue (.inr ne_Misfit_BadValue), E_Misfit⟩
    · cases h1.symm.trans (PySem.W.mg_of X G nc_Misfit)
      cases h2.symm.trans (PySem.W.mg_of X G nc_Misfit)
      exact ⟨kit_ref xc_Misfit xt_Misfit sb_Misfit_Misfit (.inl rfl), E_Misfit⟩
    · cases h1.symm.trans (PySem.W.mg_of X G nc_Misfit)
      cases h2.symm.trans (PySem.W.mg_of X G nc_Nothing)
      exact ⟨kit_ref xc_Nothing xt_Nothing sb_Misfit_Nothing (.inr ne_Misfit_Nothing), E_Misfit⟩
    · cases h1.symm.trans (PySem.W.mg_of X G nc_Nothing)
      cases h2.symm.trans (PySem.W.mg_of X G nc_TooMany)
      exact ⟨kit_ref xc_TooMany xt_TooMany sb_Nothing_TooMany (.inr ne_Nothing_TooMany), E_Nothing⟩
    · cases h1.symm.trans (PySem.W.mg_of X G nc_Nothing)
      cases h2.symm.trans (PySem.W.mg_of X G nc_BadNumber)
      exact ⟨kit_ref xc_BadNumber xt_BadNumber sb_Nothing_BadNumber (.inr ne_Nothing_BadNumber), E_Nothing⟩
    · cases h1.symm.trans (PySem.W.mg_of X G nc_Nothing)
      cases h2.symm.trans (PySem.W.mg_of X G nc_BadValue)
      exact ⟨kit_ref xc_BadValue xt_BadValue sb_Nothing_BadValue (.inr ne_Nothing_BadValue), E_Nothing⟩
    · cases h1.symm.trans (PySem.W.mg_of X G nc_Nothing)
      cases h2.symm.trans (PySem.W.mg_of X G nc_Misfit)
      exact ⟨kit_ref xc_Misfit xt_Misfit sb_Nothing_Misfit (.inr ne_Nothing_Misfit), E_Nothing⟩
    · cases h1.symm.trans (PySem.W.mg_of X G nc_Nothing)
      cases h2.symm.trans (PySem.W.mg_of X G nc_Nothing)
      exact ⟨kit_ref xc_Nothing xt_Nothing sb_Nothing_Nothing (.inl rfl), E_Nothing⟩
    · cases h1.symm.trans (PySem.W.mg_of X G nc_TooMany)
      cases h2.symm.trans (PySem.W.mg_of X G nc_TooMany)
      exact ⟨kit_ref xc_TooMany xt_TooMany sb_TooMany_TooMany (.inl rfl), E_TooMany⟩
    · cases h1.symm.trans (PySem.W.mg_of X G nc_TooMany)
      cases h2.symm.trans (PySem.W.mg_of X G nc_BadNumber)
      exact ⟨kit_ref xc_BadNumber xt_BadNumber sb_TooMany_BadNumber (.inr ne_TooMany_BadNumber), E_TooMany⟩
    · cases h1.symm.trans (PySem.W.mg_of X G nc_TooMany)
      cases h2.symm.trans (PySem.W.mg_of X G nc_BadValue)
      exact ⟨kit_ref xc_BadValue xt_BadValue sb_TooMany_BadValue (.inr ne_TooMany_BadValue), E_TooMany⟩
    · cases h1.symm.trans (PySem.W.mg_of X G nc_TooMany)
      cases h2.symm.trans (PySem.W.mg_of X G nc_Misfit)
      exact ⟨kit_ref xc_Misfit xt_Misfit sb_TooMany_Misfit (.inr ne_TooMany_Misfit), E_TooMany⟩
    · cases h1.symm.trans (PySem.W.mg_of X G nc_TooMany)
      cases h2.symm.trans (PySem.W.mg_of X G nc_Nothing)
      exact ⟨kit_ref xc_Nothing xt_Nothing sb_TooMany_Nothing (.inr ne_TooMany_Nothing), E_TooMany⟩
  have isK : ∀ (c1 : Str) (C : Addr) (b : Bool), isX c1 = some b → mg c1 = some (.ref C) → PySem.W.exmOne K (.ref C) (.ref C_WorldError) = some b := by
    intro c C b hs h1
    rcases isX_casesT c b hs with ⟨rfl, rfl⟩ | ⟨rfl, rfl⟩ | ⟨rfl, rfl⟩ | ⟨rfl, rfl⟩ | ⟨rfl, rfl⟩
    · cases h1.symm.trans (PySem.W.mg_of X G nc_BadNumber)
      exact exm_ref xb_WorldError xh_WorldError xt_WorldError sw_BadNumber
    · cases h1.symm.trans (PySem.W.mg_of X G nc_BadValue)
      exact exm_ref xb_WorldError xh_WorldError xt_WorldError sw_BadValue
    · cases h1.symm.trans (PySem.W.mg_of X G nc_Misfit)
      exact exm_ref xb_WorldError xh_WorldError xt_WorldError sw_Misfit
    · cases h1.symm.trans (PySem.W.mg_of X G nc_Nothing)
      exact exm_ref xb_WorldError xh_WorldError xt_WorldError sw_Nothing
    · cases h1.symm.trans (PySem.W.mg_of X G nc_TooMany)
      exact exm_ref xb_WorldError xh_WorldError xt_WorldError sw_TooMany
  have xfK : ∀ (n c : Str) (C : Addr), n ∈ xaX c → mg c = some (.ref C) → XfC K C ∧ PySem.W.findIn K (.ref C) n = some none := by
    intro n c C hn h1
    rcases xaX_cases n c hn with ⟨rfl, rfl⟩ | ⟨rfl, rfl⟩ | ⟨rfl, rfl⟩ | ⟨rfl, rfl⟩ | ⟨rfl, rfl⟩ | ⟨rfl, rfl⟩
    · cases h1.symm.trans (PySem.W.mg_of X G nc_BadNumber)
      exact ⟨Y_BadNumber, no_BadNumber_part⟩
    · cases h1.symm.trans (PySem.W.mg_of X G nc_BadValue)
      exact ⟨Y_BadValue, no_BadValue_part⟩
    · cases h1.symm.trans (PySem.W.mg_of X G nc_Misfit)
      exact ⟨Y_Misfit, no_Misfit_part⟩
    · cases h1.symm.trans (PySem.W.mg_of X G nc_Nothing)
      exact ⟨Y_Nothing, no_Nothing_part⟩
    · cases h1.symm.trans (PySem.W.mg_of X G nc_TooMany)
      exact ⟨Y_TooMany, no_TooMany_what⟩
    · cases h1.symm.trans (PySem.W.mg_of X G nc_TooMany)
      exact ⟨Y_TooMany, no_TooMany_most⟩
  let Fa : Fx P K mg := { a_is_integer := a_is_integer, d_is_integer := _, m_is_integer := PySem.W.mg_of X G na_is_integer, k_is_integer := kp_is_integer, F_is_integer := F_is_integer, b_is_integer := b_is_integer, a_lowest := a_lowest, d_lowest := _, m_lowest := PySem.W.mg_of X G na_lowest, k_lowest := kp_lowest, F_lowest := F_lowest, b_lowest := b_lowest, a_is_short := a_is_short, d_is_short := _, m_is_short := PySem.W.mg_of X G na_is_short, k_is_short := kp_is_short, F_is_short := F_is_short, b_is_short := b_is_short, a_read_whole := a_read_whole, d_read_whole := _, m_read_whole := PySem.W.mg_of X G na_read_whole, k_read_whole := kp_read_whole, F_read_whole := F_read_whole, b_read_whole := b_read_whole, a_is_ratio := a_is_ratio, d_is_ratio := _, m_is_ratio := PySem.W.mg_of X G na_is_ratio, k_is_ratio := kp_is_ratio, F_is_ratio := F_is_ratio, b_is_ratio := b_is_ratio, a_plus := a_plus, d_plus := _, m_plus := PySem.W.mg_of X G na_plus, k_plus := kp_plus, F_plus := F_plus, b_plus := b_plus, a_minus := a_minus, d_minus := _, m_minus := PySem.W.mg_of X G na_minus, k_minus := kp_minus, F_minus := F_minus, b_minus := b_minus, a_negated := a_negated, d_negated := _, m_negated := PySem.W.mg_of X G na_negated, k_negated := kp_negated, F_negated := F_negated, b_negated := b_negated, a_over := a_over, d_over := _, m_over := PySem.W.mg_of X G na_over, k_over := kp_over, F_over := F_over, b_over := b_over, a_less := a_less, d_less := _, m_less := PySem.W.mg_of X G na_less, k_less := kp_less, F_less := F_less, b_less := b_less, a_simplest_above := a_simplest_above, d_simplest_above := _, m_simplest_above := PySem.W.mg_of X G na_simplest_above, k_simplest_above := kp_simplest_above, F_simplest_above := F_simplest_above, b_simplest_above := b_simplest_above, a_simplest := a_simplest, d_simplest := _, m_simplest := PySem.W.mg_of X G na_simplest, k_simplest := kp_simplest, F_simplest := F_simplest, b_simplest := b_simplest, a_ratio_text := a_ratio_text, d_ratio_text := _, m_ratio_text := PySem.W.mg_of X G na_ratio_text, k_ratio_text := kp_ratio_text, F_ratio_text := F_ratio_text, b_ratio_text := b_ratio_text, a_read_ratio := a_read_ratio, d_read_ratio := _, m_read_ratio := PySem.W.mg_of X G na_read_ratio, k_read_ratio := kp_read_ratio, F_read_ratio := F_read_ratio, b_read_ratio := b_read_ratio, a_l_pen := a_l_pen, d_l_pen := _, m_l_pen := PySem.W.mg_of X G na_l_pen, k_l_pen := kp_l_pen, F_l_pen := F_l_pen, b_l_pen := b_l_pen, a_l_draw := a_l_draw, d_l_draw := _, m_l_draw := PySem.W.mg_of X G na_l_draw, k_l_draw := kp_l_draw, F_l_draw := F_l_draw, b_l_draw := b_l_draw, a_l_pick := a_l_pick, d_l_pick := _, m_l_pick := PySem.W.mg_of X G na_l_pick, k_l_pick := kp_l_pick, F_l_pick := F_l_pick, b_l_pick := b_l_pick, a_l_heard := a_l_heard, d_l_heard := _, m_l_heard := PySem.W.mg_of X G na_l_heard, k_l_heard := kp_l_heard, F_l_heard := F_l_heard, b_l_heard := b_l_heard, a_l_shared := a_l_shared, d_l_shared := _, m_l_shared := PySem.W.mg_of X G na_l_shared, k_l_shared := kp_l_shared, F_l_shared := F_l_shared, b_l_shared := b_l_shared, a_l_lowest := a_l_lowest, d_l_lowest := _, m_l_lowest := PySem.W.mg_of X G na_l_lowest, k_l_lowest := kp_l_lowest, F_l_lowest := F_l_lowest, b_l_lowest := b_l_lowest, a_l_whole := a_l_whole, d_l_whole := _, m_l_whole := PySem.W.mg_of X G na_l_whole, k_l_whole := kp_l_whole, F_l_whole := F_l_whole, b_l_whole := b_l_whole, a_l_read := a_l_read, d_l_read := _, m_l_read := PySem.W.mg_of X G na_l_read, k_l_read := kp_l_read, F_l_read := F_l_read, b_l_read := b_l_read, a_l_bent := a_l_bent, d_l_bent := _, m_l_bent := PySem.W.mg_of X G na_l_bent, k_l_bent := kp_l_bent, F_l_bent := F_l_bent, b_l_bent := b_l_bent, a_l_simplest := a_l_simplest, d_l_simplest := _, m_l_simplest := PySem.W.mg_of X G na_l_simplest, k_l_simplest := kp_l_simplest, F_l_simplest := F_l_simplest, b_l_simplest := b_l_simplest, a_law := a_law, d_law := _, m_law := PySem.W.mg_of X G na_law, k_law := kp_law, F_law := F_law, b_law := b_law, c_law := c_law, P_law := P_law, u_FIGURES := (.str "0123456789" tFIGURES), m_FIGURES := PySem.W.mg_of X G nk_FIGURES, c_FIGURES := fun T => const_str, u_MOST_FIGURES := (.int 2000 tMOST_FIGURES), m_MOST_FIGURES := PySem.W.mg_of X G nk_MOST_FIGURES, c_MOST_FIGURES := fun T => const_int, u_ONE := (.ref ca_ONE), m_ONE := PySem.W.mg_of X G nk_ONE, c_ONE := fun T => (const_tup (its := [.int 1 ct_ONE_0, .int 1 ct_ONE_1]) co_ONE (by simp) (vs := [.int 1, .int 1]) (.cons ⟨_, rfl⟩ (.cons ⟨_, rfl⟩ .nil)) fun S ρ => (.cons (.int _) (.cons (.int _) .nil))), u_ZERO := (.ref ca_ZERO), m_ZERO := PySem.W.mg_of X G nk_ZERO, c_ZERO := fun T => (const_tup (its := [.int 0 ct_ZERO_0, .int 1 ct_ZERO_1]) co_ZERO (by simp) (vs := [.int 0, .int 1]) (.cons ⟨_, rfl⟩ (.cons ⟨_, rfl⟩ .nil)) fun S ρ => (.cons (.int _) (.cons (.int _) .nil))), n_abs := PySem.W.mg_none_of X G nz_abs, n_all := PySem.W.mg_none_of X G nz_all, n_bool := PySem.W.mg_none_of X G nz_bool, n_int := PySem.W.mg_none_of X G nz_int, n_isinstance := PySem.W.mg_none_of X G nz_isinstance, n_len := PySem.W.mg_none_of X G nz_len, n_range := PySem.W.mg_none_of X G nz_range, n_repr := PySem.W.mg_none_of X G nz_repr, n_str := PySem.W.mg_none_of X G nz_str, n_tuple := PySem.W.mg_none_of X G nz_tuple, m_gcd := PySem.W.mg_of X G ng_gcd, C_BadNumber := C_BadNumber, m_BadNumber := PySem.W.mg_of X G nc_BadNumber, C_BadValue := C_BadValue, m_BadValue := PySem.W.mg_of X G nc_BadValue, C_Misfit := C_Misfit, m_Misfit := PySem.W.mg_of X G nc_Misfit, C_Nothing := C_Nothing, m_Nothing := PySem.W.mg_of X G nc_Nothing, C_TooMany := C_TooMany, m_TooMany := PySem.W.mg_of X G nc_TooMany, C_WorldError := C_WorldError, m_WorldError := PySem.W.mg_of X G nc_WorldError, x_BadNumber := x_BadNumber, x_BadValue := x_BadValue, x_Misfit := x_Misfit, x_Nothing := x_Nothing, x_TooMany := x_TooMany, subK := subK, isK := isK, xfK := xfK, w_is_ratio_0_value := w_is_ratio_0_value, w_simplest_0_high_low := w_simplest_0_high_low, Pne := Pne }
  refine ⟨_, [(c_law, P_law)], gx Fa, f_law, rfl, ?_, ?_, ?_, ?_, fun s u => ?_, plain, fun base KX hns hnd hTB => ok_law Fa ⟨hnd, hTB (c_law, P_law) (by simp)⟩⟩
  · intro p hp
    have hp : p ∈ tabs Fa := hp
    unfold tabs at hp
    simp only [List.mem_cons, List.not_mem_nil, or_false] at hp
    rcases hp with rfl
    · exact ⟨(c_law, P_law), by simp, rfl⟩
  · intro p hp
    simp only [List.mem_cons, List.not_mem_nil, or_false] at hp
    rcases hp with rfl
    · exact (t_law).1
  · intro p hp
    simp only [List.mem_cons, List.not_mem_nil, or_false] at hp
    rcases hp with rfl
    · exact ln_law
  · intro p hp
    simp only [List.mem_cons, List.not_mem_nil, or_false] at hp
    rcases hp with rfl
    · exact (t_law).2
  · exact .of_eq rfl
end K01
end
section
set_option Elab.async false
set_option linter.all false
set_option maxRecDepth 100000
set_option maxHeartbeats 1000000
open PySem PySem.Spec PyProof.Rows L2 LamX FL
namespace K01
/-- the pen: its cells, how many were begun (at most B), what is left -/
def penS (ns : List Int) (k r : Int) (rest : Sto) : Sto := some (.lst [.lst (ns.map D.int), .int k, .int r]) :: rest
def Pen (ns : List Int) (B : Nat) (st : Sto) : Prop := ∃ (k r : Int) (rest : Sto), st = penS ns k r rest ∧ 0 ≤ k ∧ k ≤ B
theorem Pen.mono {ns : List Int} {B C : Nat} {st : Sto} (h : Pen ns B st) (hb : B ≤ C) : Pen ns C st := by
  obtain ⟨k, r, rest, e, h1, h2⟩ := h
  exact ⟨k, r, rest, e, h1, by omega⟩
theorem log2_bits {z : Int} (h : Builtin.Int.intBits z ≤ 1048576) : z.natAbs.log2 ≤ 1048576 := by
  unfold Builtin.Int.intBits at h
  split at h
  · rename_i e
    have e : z = 0 := by simpa using e
    subst e
    decide
  · omega
@[simp] theorem ixN30 : ixN 3 0 = some 0 := by decide
@[simp] theorem ixN31 : ixN 3 1 = some 1 := by decide
@[simp] theorem ixN32 : ixN 3 2 = some 2 := by decide
theorem log2_small {n : Nat} (k : Nat) (h : n < 2 ^ k) : n.log2 < k ∨ n = 0 := by
  by_cases e : n = 0
  · exact .inr e
  · exact .inl ((Nat.log2_lt e).mpr h)
theorem lg {n : Nat} (k : Nat) (h : n < 2 ^ (k + 1)) : n.log2 ≤ k := by
  by_cases e : n = 0
  · rw [e]; exact Nat.zero_le _
  · have := (Nat.log2_lt e).mpr h
    omega
theorem shk_ints (ns : List Int) (k : Nat) : (ns.map D.int).all (D.shk k) = true := by simp
theorem eqvs_nil' (xs : List Int) : D.eqvs (xs.map D.int) [] = decide (xs = []) := by
  cases xs <;> simp
theorem atI_ints {ns : List Int} {i : Int} (h0 : 0 ≤ i) (h1 : i < ns.length) : ∃ c ∈ ns, atI (ns.map D.int) i = some (.int c) := by
  obtain ⟨n, rfl⟩ := Int.eq_ofNat_of_zero_le h0
  have hn : n < ns.length := by omega
  refine ⟨ns[n], List.getElem_mem hn, ?_⟩
  rw [FL.atI_nat]
  simp [hn]
theorem p18 : (10 : Int) ^ (18 : Nat) = 1000000000000000000 := by decide
theorem draw_ok {ns : List Int} (hns : ∀ z ∈ ns, z.natAbs.log2 ≤ 1048576) {B : Nat} {st : Sto} (h : Pen ns B st) (hB : B < 5000) {many : Int} (h1 : 0 < many) (h2 : many ≤ 1000000000) :
    ∃ v st', f_l_draw [.cell 0, .int many] st = .ok (.int v) st' ∧ 0 ≤ v ∧ v < many ∧ Pen ns (B + 1) st' := by
  obtain ⟨k, r, rest, rfl, hk0, hkB⟩ := h
  have hm9 : many.natAbs.log2 < 9000 := by
    have := lg (n := many.natAbs) 30 (by omega)
    omega
  by_cases hr : 0 < r
  · refine ⟨r % many, penS ns k (r / many) rest, ?_, Int.emod_nonneg _ (by omega), Int.emod_lt_of_pos _ h1, k, _, rest, rfl, hk0, by omega⟩
    unfold f_l_draw b_l_draw
    simp [penS, h1, hm9, hr]
  · have a1 : Nat.log2 91199 + k.natAbs.log2 < 134000000 := by
      have := lg (n := k.natAbs) 13 (by omega)
      have : Nat.log2 91199 ≤ 16 := lg 16 (by decide)
      omega
    have tail : ∀ c : Int, ∃ v : Int, 0 ≤ v ∧ v < many ∧ finish ((sSeq (sAsg (.nm 5) (e2 opMod (eBuilt (opIntS) (aCons (e2 opPow (e2 opAdd (e2 opAdd (e2 opMod (eBuilt (opIntS) (aCons (eVar 4) (aNil))) (eC (.int 2147483549))) (e2 opMul (eC (.int 91199)) (eVar 3))) (eC (.int 30013))) (eC (.int 5))) (aNil))) (eC (.int 2147483629))))
  (sSeq (sAsg (.nm 5) (e2 opMod (eBuilt (opIntS) (aCons (e2 opPow (e2 opAdd (e2 opAdd (e2 opMul (eVar 5) (e2 opAdd (e2 opMul (eC (.int 2)) (eVar 3)) (eC (.int 2621)))) (e2 opMul (e2 opMul (eC (.int 58111)) (eVar 3)) (eVar 3))) (eC (.int 91199))) (eC (.int 3))) (aNil))) (eC (.int 2147483587))))
  (sRet (e2 opMod (eBuilt (opIntS) (aCons (e2 opDiv (eVar 5) (eC (.int 64))) (aNil))) (eVar 1))))) [some (.cell 0), some (.int many), none, some (.int k), some (.int c), none] (penS ns (k + 1) r rest)) = .ok (.int v) (penS ns (k + 1) r rest) := by
      intro c
      have m1 : 0 ≤ c % 2147483549 := Int.emod_nonneg _ (by decide)
      have m2 : c % 2147483549 < 2147483549 := Int.emod_lt_of_pos _ (by decide)
      have b1 : (c % 2147483549 + 91199 * k + 30013).natAbs < 18446744073709551616 := by omega
      generalize hx : (c % 2147483549 + 91199 * k + 30013) ^ 5 % 2147483629 = x
      have x1 : 0 ≤ x := by rw [← hx]; exact Int.emod_nonneg _ (by decide)
      have x2 : x < 2147483629 := by rw [← hx]; exact Int.emod_lt_of_pos _ (by decide)
      have c1 : Nat.log2 2 + k.natAbs.log2 < 134000000 := by
        have := lg (n := k.natAbs) 13 (by omega)
        have : Nat.log2 2 ≤ 1 := lg 1 (by decide)
        omega
      have c2 : x.natAbs.log2 + (2 * k + 2621).natAbs.log2 < 134000000 := by
        have := lg (n := x.natAbs) 31 (by omega)
        have := lg (n := (2 * k + 2621).natAbs) 31 (by omega)
        omega
      have c3 : Nat.log2 58111 + k.natAbs.log2 < 134000000 := by
        have := lg (n := k.natAbs) 13 (by omega)
        have : Nat.log2 58111 ≤ 16 := lg 16 (by decide)
        omega
      have c4 : (58111 * k).natAbs.log2 + k.natAbs.log2 < 134000000 := by
        have := lg (n := k.natAbs) 13 (by omega)
        have := lg (n := (58111 * k).natAbs) 31 (by omega)
        omega
      have y0 : 0 ≤ x * (2 * k + 2621) := Int.mul_nonneg x1 (by omega)
      have y1 : x * (2 * k + 2621) ≤ 2147483629 * 12621 := Int.mul_le_mul (by omega) (by omega) (by omega) (by decide)
      have y2 : 0 ≤ 58111 * k * k := Int.mul_nonneg (by omega) hk0
      have y3 : 58111 * k * k ≤ 58111 * 5000 * 5000 := Int.mul_le_mul (by omega) (by omega) hk0 (by decide)
      have b2 : (x * (2 * k + 2621) + 58111 * k * k + 91199).natAbs < 18446744073709551616 := by omega
      have l64 : Nat.log2 64 < 9000 := by have : Nat.log2 64 ≤ 6 := lg 6 (by decide); omega
      refine ⟨(x * (2 * k + 2621) + 58111 * k * k + 91199) ^ 3 % 2147483587 / 64 % many, Int.emod_nonneg _ (by omega), Int.emod_lt_of_pos _ h1, ?_⟩
      simp [penS, h1, a1, b1, c1, c2, c3, c4, b2, hx, l64]
    by_cases he : ns = []
    · subst he
      obtain ⟨v, v0, v1, hv⟩ := tail (91199 * k + 30013)
      refine ⟨v, _, ?_, v0, v1, k + 1, r, rest, rfl, by omega, by omega⟩
      rw [← hv]
      unfold f_l_draw b_l_draw
      have nk : ¬ k < 0 := by omega
      simp only [penS] at *
      simp [h1, hm9, hr, a1, nk]
    · have hl : 0 < (ns.length : Int) := by
        have := List.length_pos_iff.mpr he
        omega
      have hl2 : 0 < ns.length := by omega
      obtain ⟨c, hc, hat⟩ := atI_ints (ns := ns) (i := k % ns.length) (Int.emod_nonneg _ (by omega)) (Int.emod_lt_of_pos _ hl)
      by_cases hg : k < ns.length ∧ 1000000000000000000 ≤ (if c < 0 then -c else c)
      · have g1 := hns c hc
        obtain ⟨g2, g3⟩ := hg
        have n18 : Nat.log2 2 + ((if c < 0 then -c else c) - 1000000000000000000).natAbs.log2 < 134000000 := by
          have q1 : ((if c < 0 then -c else c) - 1000000000000000000).natAbs ≤ c.natAbs := by split <;> omega
          have q2 : ((if c < 0 then -c else c) - 1000000000000000000).natAbs.log2 ≤ c.natAbs.log2 := by
            by_cases z : ((if c < 0 then -c else c) - 1000000000000000000).natAbs = 0
            · rw [z]; exact Nat.zero_le _
            · exact (Nat.le_log2 (by omega)).mpr (Nat.le_trans (Nat.log2_self_le z) q1)
          have : Nat.log2 2 ≤ 1 := lg 1 (by decide)
          omega
        clear tail
        refine ⟨(2 * ((if c < 0 then -c else c) - 1000000000000000000) + (if c < 0 then 1 else 0)) % many, penS ns (k + 1) ((2 * ((if c < 0 then -c else c) - 1000000000000000000) + (if c < 0 then 1 else 0)) / many) rest, ?_, Int.emod_nonneg _ (by omega), Int.emod_lt_of_pos _ h1, k + 1, _, rest, rfl, by omega, by omega⟩
        unfold f_l_draw b_l_draw
        simp only [penS] at *
        simp [h1, hm9, hr, a1, he, hl, hl2, hat, eqvs_nil', p18, g2, g3, n18]
      · obtain ⟨v, v0, v1, hv⟩ := tail c
        refine ⟨v, _, ?_, v0, v1, k + 1, r, rest, rfl, by omega, by omega⟩
        rw [← hv]
        unfold f_l_draw b_l_draw
        simp only [penS] at hv ⊢
        clear tail
        by_cases hk : k < ns.length
        · have hg' : ¬ 1000000000000000000 ≤ (if c < 0 then -c else c) := fun z => hg ⟨hk, z⟩
          simp [h1, hm9, hr, a1, he, hl, hl2, hat, eqvs_nil', p18, hk, hg']
        · simp [h1, hm9, hr, a1, he, hl, hl2, hat, eqvs_nil', p18, hk]
/-- one of a list is picked -/
theorem pick_ok {ns : List Int} (hns : ∀ z ∈ ns, z.natAbs.log2 ≤ 1048576) {B : Nat} {st : Sto} (h : Pen ns B st) (hB : B < 5000) {xs : List D} (h1 : xs ≠ []) (h2 : xs.length ≤ 1000) :
    ∃ d st', f_l_pick [.cell 0, .lst xs] st = .ok d st' ∧ d ∈ xs ∧ Pen ns (B + 1) st' := by
  have hl := List.length_pos_iff.mpr h1
  obtain ⟨v, st', e, v0, v1, hp⟩ := draw_ok hns h hB (many := xs.length) (by omega) (by omega)
  obtain ⟨n, rfl⟩ := Int.eq_ofNat_of_zero_le v0
  have hn : n < xs.length := by omega
  refine ⟨xs[n], st', ?_, List.getElem_mem hn, hp⟩
  unfold f_l_pick b_l_pick
  simp [e, FL.atI_nat, hn]
end K01
end
section
set_option Elab.async false
set_option linter.all false
set_option maxRecDepth 100000
set_option maxHeartbeats 1000000
open PySem PySem.Spec PyProof.Rows L2 LamX FL
namespace K01
theorem gcd_fmod (a b : Int) : Int.gcd b (a.fmod b) = Int.gcd a b := by
  have e : a.fmod b = a + b * (-(a.fdiv b)) := by
    rw [Int.fmod_def, Int.mul_neg]
    omega
  rw [e, Int.gcd_add_mul_left_right, Int.gcd_comm]
theorem half_pos {b r : Int} (h0 : 0 < r) (h1 : r < b) : 0 ≤ b % r ∧ 2 * (b % r) < b := by
  have e1 := Int.emod_nonneg b (show r ≠ 0 by omega)
  have e2 := Int.emod_lt_of_pos b h0
  have e3 : 1 ≤ b / r := (Int.le_ediv_iff_mul_le h0).mpr (by omega)
  have e4 := Int.mul_ediv_add_emod b r
  have e5 : r * 1 ≤ r * (b / r) := Int.mul_le_mul_of_nonneg_left e3 (by omega)
  omega
theorem fm_abs (a : Int) {b : Int} (h : b ≠ 0) : (0 < b → 0 ≤ a.fmod b ∧ a.fmod b < b) ∧ (b < 0 → b < a.fmod b ∧ a.fmod b ≤ 0) := by
  refine ⟨fun h => ⟨Int.fmod_nonneg_of_pos a h, Int.fmod_lt_of_pos a h⟩, fun h => ?_⟩
  have e := Int.neg_fmod_neg a b
  have e1 := Int.fmod_nonneg_of_pos (-a) (show 0 < -b by omega)
  have e2 := Int.fmod_lt_of_pos (-a) (show 0 < -b by omega)
  omega
theorem fm_half (a : Int) {b : Int} (h : b ≠ 0) (hr : a.fmod b ≠ 0) : 2 * (b.fmod (a.fmod b)).natAbs < b.natAbs := by
  obtain ⟨h1, h2⟩ := fm_abs a h
  generalize a.fmod b = r at *
  by_cases hb : 0 < b
  · obtain ⟨q1, q2⟩ := h1 hb
    have := half_pos (b := b) (r := r) (by omega) q2
    rw [Int.fmod_eq_emod_of_nonneg b (by omega)]
    omega
  · obtain ⟨q1, q2⟩ := h2 (by omega)
    have := half_pos (b := -b) (r := -r) (by omega) (by omega)
    have e := Int.neg_fmod_neg b r
    rw [Int.fmod_eq_emod_of_nonneg (-b) (by omega)] at e
    omega
theorem opMod_fm (st : Sto) (a : Int) {b : Int} (h : b ≠ 0) : opMod st (.int a) (.int b) = some (.int (a.fmod b)) := by
  rw [opMod_int]
  by_cases hb : 0 < b
  · rw [if_pos hb, Int.fmod_eq_emod_of_nonneg a (by omega)]
  · rw [if_neg hb, if_pos (by omega)]
def eucB : SF := sSeq (sIf (tVal (e2 opEq (eVar 1) (eC (.int 0)))) (sBreak) (sNil)) (sPar [0, 1] (aCons (eVar 1) (aCons (e2 opMod (eBuilt (opIntS) (aCons (eVar 0) (aNil))) (eVar 1)) (aNil))))
theorem euc_zero (a : Int) (t : Option D) (st : Sto) : eucB [some (.int a), some (.int 0), t] st = .bk [some (.int a), some (.int 0), t] st := by
  simp [eucB]
theorem euc_step (a : Int) {b : Int} (h : b ≠ 0) (t : Option D) (st : Sto) : eucB [some (.int a), some (.int b), t] st = .nx [some (.int b), some (.int (a.fmod b)), t] st := by
  have := opMod_fm st a h
  simp [eucB, h, this, -opMod_int]
theorem euc_for : ∀ (m : Nat) (a b : Int) (t : Option D) (ds : List D) (st : Sto), b.natAbs < 2 ^ m → 2 * m + 1 ≤ ds.length →
    ∃ (g : Int) (t' : Option D), forL (.nm 2) eucB ds [some (.int a), some (.int b), t] st = .nx [some (.int g), some (.int 0), t'] st ∧ g.natAbs = Int.gcd a b := by
  intro m
  induction m with
  | zero =>
    intro a b t ds st hb hl
    have e : b = 0 := by simp at hb; omega
    subst e
    match ds, hl with
    | d :: ds, _ => exact ⟨a, some d, by simp [forL, euc_zero], by simp⟩
  | succ m ih =>
    intro a b t ds st hb hl
    match ds, hl with
    | d1 :: d2 :: d3 :: ds, hl =>
      by_cases h : b = 0
      · subst h
        exact ⟨a, some d1, by simp [forL, euc_zero], by simp⟩
      · by_cases hr : a.fmod b = 0
        · refine ⟨b, some d2, by simp [forL, euc_step a h, hr, euc_zero], ?_⟩
          rw [← gcd_fmod a b, hr]
          simp
        · have hh := fm_half a h hr
          obtain ⟨g, t', e, eg⟩ := ih (a.fmod b) (b.fmod (a.fmod b)) (some d2) (d3 :: ds) st (by rw [Nat.pow_succ] at hb; omega) (by simp at hl ⊢; omega)
          refine ⟨g, t', ?_, ?_⟩
          · rw [← e]
            simp [forL, euc_step a h, euc_step b hr]
          · rw [eg, gcd_fmod, gcd_fmod]
theorem rng_ok (n : Int) (h0 : 0 ≤ n) (h1 : n < 1000000) (st : Sto) : kRng1 [.int n] st = .ok (rangeD 0 n.toNat) st := by
  show (if -(2 ^ 62) ≤ n ∧ n < 2 ^ 62 then _ else _) = _
  rw [if_pos ⟨by omega, by omega⟩]
theorem for_rng {t : Tg} {b : SF} {f : AF} {γ : Gam} {st st1 : Sto} {n : Int} (h : f γ st = .ok [.int n] st1) (h0 : 0 ≤ n) (h1 : n < 1000000) : sFor t (FL.iRng1 f) b γ st = forL t b (rangeD 0 n.toNat) γ st1 := by
  show ((f γ st).bind kRng1).fl γ _ = _
  rw [h]
  show (kRng1 [.int n] st1).fl γ _ = _
  rw [rng_ok n h0 h1]
  rfl
theorem seq_nx {a b : SF} {γ γ1 : Gam} {st st1 : Sto} (h : a γ st = .nx γ1 st1) : sSeq a b γ st = b γ1 st1 := by
  simp [h]
theorem shared_ok (a b : Int) (st : Sto) (hb : b.natAbs < 2 ^ 7000) : f_l_shared [.int a, .int b] st = .ok (.int (Int.gcd a b)) st := by
  obtain ⟨g, t', e, eg⟩ := euc_for 7000 a b none (rangeD 0 (15000 : Int).toNat) st hb (by simp [rangeD])
  have eq2 : (if g < 0 then -g else g) = (Int.gcd a b : Int) := by split <;> omega
  have h1 : sFor (.nm 2) (FL.iRng1 (aCons (eC (.int 15000)) aNil)) eucB (startG 3 [.int a, .int b]) st = .nx [some (.int g), some (.int 0), t'] st := by
    rw [for_rng (st1 := st) (n := 15000) (by simp) (by decide) (by decide)]
    exact e
  show finish (sSeq (sFor (.nm 2) (FL.iRng1 (aCons (eC (.int 15000)) aNil)) eucB) (sRet (eBuilt opAbs (aCons (eVar 0) aNil))) (startG 3 [.int a, .int b]) st) = _
  rw [seq_nx h1]
  simp [eq2]
/-- lowest terms -/
def can (a b : Int) : Int × Int := if b < 0 then (-a / Int.gcd a b, -b / Int.gcd a b) else (a / Int.gcd a b, b / Int.gcd a b)
def rat (p : Int × Int) : D := .tup [.int p.1, .int p.2]
theorem gcd_pos {a b : Int} (h : b ≠ 0) : 0 < (Int.gcd a b : Int) := by
  have : Int.gcd a b ≠ 0 := fun e => h (Int.gcd_eq_zero_iff.mp e).2
  omega
theorem gcd_le {a b : Int} (h : b ≠ 0) : Int.gcd a b ≤ b.natAbs := Nat.gcd_le_right _ (by omega)
theorem gcd_lg {a b : Int} (h : b ≠ 0) (hb : b.natAbs < 2 ^ 7000) : (Int.gcd a b).log2 < 9000 := by
  have := lg (n := Int.gcd a b) 6999 (Nat.lt_of_le_of_lt (gcd_le h) hb)
  omega
theorem l_lowest_ok (a b : Int) (st : Sto) (h : b ≠ 0) (ha : a.natAbs < 2 ^ 7000) (hb : b.natAbs < 2 ^ 7000) : f_l_lowest [.int a, .int b] st = .ok (rat (can a b)) st := by
  have e1 := shared_ok a b st hb
  have e2 := gcd_pos (a := a) h
  have e3 := gcd_lg (a := a) h hb
  have l1 : Nat.log2 1 = 0 := by decide
  have la := lg (n := a.natAbs) 6999 ha
  have lb := lg (n := b.natAbs) 6999 hb
  have e4 : 0 < Int.gcd a b := by omega
  unfold f_l_lowest b_l_lowest can rat
  by_cases hn : b < 0
  · simp [e1, hn, e2, e3, e4, l1, show a.natAbs.log2 < 134000000 by omega, show b.natAbs.log2 < 134000000 by omega]
  · simp [e1, hn, e2, e3, e4, l1, show a.natAbs.log2 < 134000000 by omega, show b.natAbs.log2 < 134000000 by omega]
theorem lowest_ok (a b : Int) (st : Sto) (h : b ≠ 0) (hb : b.natAbs < 2 ^ 7000) : f_lowest [.int a, .int b] st = .ok (rat (can a b)) st := by
  have e2 := gcd_pos (a := a) h
  have e3 := gcd_lg (a := a) h hb
  have eg : Nat.gcd a.natAbs b.natAbs = Int.gcd a b := rfl
  have e4 : 0 < Int.gcd a b := by omega
  unfold f_lowest b_lowest can rat
  by_cases hn : b < 0
  · simp [hn, eg, e2, e3, e4]
  · simp [hn, eg, e2, e3, e4]
end K01
end
section
set_option Elab.async false
set_option linter.all false
set_option maxRecDepth 100000
set_option maxHeartbeats 1000000
open PySem PySem.Spec PyProof.Rows L2 LamX FL
namespace K01
/-- a ratio in lowest terms -/
def Can (p : Int × Int) : Prop := 0 < p.2 ∧ Int.gcd p.1 p.2 = 1
theorem can_ok (a : Int) {b : Int} (h : b ≠ 0) : Can (can a b) ∧ (can a b).1.natAbs ≤ a.natAbs ∧ (can a b).2.natAbs ≤ b.natAbs := by
  have e4 := gcd_pos (a := a) h
  have e5 : 0 < Int.gcd a b := by omega
  have main : ∀ c d : Int, 0 < d → Int.gcd c d = Int.gcd a b → c.natAbs = a.natAbs → d.natAbs = b.natAbs → Can (c / Int.gcd a b, d / Int.gcd a b) ∧ (c / Int.gcd a b).natAbs ≤ a.natAbs ∧ (d / Int.gcd a b).natAbs ≤ b.natAbs := by
    intro c d hd hg ec ed
    refine ⟨⟨?_, ?_⟩, ec ▸ Int.natAbs_ediv_le_natAbs _ _, ed ▸ Int.natAbs_ediv_le_natAbs _ _⟩
    · show 0 < d / (Int.gcd a b : Int)
      rw [← hg]
      exact Int.ediv_pos_of_pos_of_dvd hd (by omega) (Int.gcd_dvd_right _ _)
    · show Int.gcd (c / (Int.gcd a b : Int)) (d / (Int.gcd a b : Int)) = 1
      rw [← hg]
      exact Int.gcd_ediv_gcd_ediv_gcd (by omega)
  unfold can
  by_cases hn : b < 0
  · rw [if_pos hn]
    exact main (-a) (-b) (by omega) (by simp) (by simp) (by simp)
  · rw [if_neg hn]
    exact main a b (by omega) rfl rfl rfl
theorem can_mul {p : Int × Int} (h : Can p) {f : Int} (hf : f ≠ 0) : can (p.1 * f) (p.2 * f) = p := by
  obtain ⟨h1, h2⟩ := h
  have eg : Int.gcd (p.1 * f) (p.2 * f) = f.natAbs := by rw [Int.gcd_mul_right, h2, Nat.one_mul]
  unfold can
  rw [eg]
  by_cases hn : f < 0
  · have : p.2 * f < 0 := Int.mul_neg_of_pos_of_neg h1 hn
    rw [if_pos this]
    have e1 : (f.natAbs : Int) = -f := by omega
    rw [e1]
    have q1 : -(p.1 * f) / -f = p.1 := by rw [← Int.mul_neg]; exact Int.mul_ediv_cancel _ (by omega)
    have q2 : -(p.2 * f) / -f = p.2 := by rw [← Int.mul_neg]; exact Int.mul_ediv_cancel _ (by omega)
    rw [q1, q2]
  · have : ¬ p.2 * f < 0 := by
      have := Int.mul_pos h1 (show 0 < f by omega)
      omega
    rw [if_neg this]
    have e1 : (f.natAbs : Int) = f := by omega
    rw [e1, Int.mul_ediv_cancel _ hf, Int.mul_ediv_cancel _ hf]
theorem can_self {p : Int × Int} (h : Can p) : can p.1 p.2 = p := by
  have := can_mul h (f := 1) (by decide)
  simpa using this
/-- what is drawn -/
def Rt (p : Int × Int) : Prop := Can p ∧ p.1.natAbs < 2 ^ 150 ∧ p.2.natAbs < 2 ^ 110
theorem rt_can {a b : Int} (h : b ≠ 0) (ha : a.natAbs < 2 ^ 150) (hb : b.natAbs < 2 ^ 110) : Rt (can a b) := by
  obtain ⟨h1, h2, h3⟩ := can_ok a h
  exact ⟨h1, Nat.lt_of_le_of_lt h2 ha, Nat.lt_of_le_of_lt h3 hb⟩
theorem pw_le {n k m : Nat} (h : n < 2 ^ k) (hk : k ≤ m) : n < 2 ^ m := Nat.lt_of_lt_of_le h (Nat.pow_le_pow_right (by decide) hk)
end K01
end
section
set_option Elab.async false
set_option linter.all false
set_option maxRecDepth 100000
set_option maxHeartbeats 1000000
open PySem PySem.Spec PyProof.Rows L2 LamX FL
namespace K01
theorem mulB {a b : Int} {k l : Nat} (ha : a.natAbs < 2 ^ k) (hb : b.natAbs < 2 ^ l) : (a * b).natAbs < 2 ^ (k + l) := by
  rw [Int.natAbs_mul, Nat.pow_add]
  exact Nat.mul_lt_mul'' ha hb
theorem addB {a b : Int} {k : Nat} (ha : a.natAbs < 2 ^ k) (hb : b.natAbs < 2 ^ k) : (a + b).natAbs < 2 ^ (k + 1) := by
  rw [Nat.pow_succ]
  omega
theorem subB {a b : Int} {k : Nat} (ha : a.natAbs < 2 ^ k) (hb : b.natAbs < 2 ^ k) : (a - b).natAbs < 2 ^ (k + 1) := by
  rw [Nat.pow_succ]
  omega
theorem mgd {i j : Int} {k l : Nat} (hi : i.natAbs < 2 ^ k) (hj : j.natAbs < 2 ^ l) (h : k + l < 134000000) : (i.natAbs.log2 + j.natAbs.log2 < 134000000) := by
  have h1 := lg (n := i.natAbs) k (pw_le hi (by omega))
  have h2 := lg (n := j.natAbs) l (pw_le hj (by omega))
  omega
/-- small enough -/
def Sm (p : Int × Int) : Prop := p.1.natAbs < 2 ^ 1500 ∧ p.2.natAbs < 2 ^ 1500
theorem Rt.sm {p : Int × Int} (h : Rt p) : Sm p := ⟨pw_le h.2.1 (by decide), pw_le h.2.2 (by decide)⟩
theorem Sm.m {p q : Int × Int} (h : Sm p) (k : Sm q) : (p.1.natAbs.log2 + q.1.natAbs.log2 < 134000000) ∧ (p.1.natAbs.log2 + q.2.natAbs.log2 < 134000000) ∧ (p.2.natAbs.log2 + q.1.natAbs.log2 < 134000000) ∧ (p.2.natAbs.log2 + q.2.natAbs.log2 < 134000000) :=
  ⟨mgd h.1 k.1 (by decide), mgd h.1 k.2 (by decide), mgd h.2 k.1 (by decide), mgd h.2 k.2 (by decide)⟩
theorem plus_ok {p q : Int × Int} (hp : Sm p) (hq : Sm q) (h1 : 0 < p.2) (h2 : 0 < q.2) (st : Sto) : f_plus [rat p, rat q] st = .ok (rat (can (p.1 * q.2 + q.1 * p.2) (p.2 * q.2))) st := by
  obtain ⟨g1, g2, g3, g4⟩ := hp.m hq
  obtain ⟨k1, k2, k3, k4⟩ := hq.m hp
  have := lowest_ok (p.1 * q.2 + q.1 * p.2) (p.2 * q.2) st (by have := Int.mul_pos h1 h2; omega) (pw_le (mulB hp.2 hq.2) (by decide))
  unfold f_plus b_plus rat
  simp [g1, g2, g3, g4, k1, k2, k3, k4, this, rat]
theorem minus_ok {p q : Int × Int} (hp : Sm p) (hq : Sm q) (h1 : 0 < p.2) (h2 : 0 < q.2) (st : Sto) : f_minus [rat p, rat q] st = .ok (rat (can (p.1 * q.2 - q.1 * p.2) (p.2 * q.2))) st := by
  obtain ⟨g1, g2, g3, g4⟩ := hp.m hq
  obtain ⟨k1, k2, k3, k4⟩ := hq.m hp
  have := lowest_ok (p.1 * q.2 - q.1 * p.2) (p.2 * q.2) st (by have := Int.mul_pos h1 h2; omega) (pw_le (mulB hp.2 hq.2) (by decide))
  unfold f_minus b_minus rat
  simp [g1, g2, g3, g4, k1, k2, k3, k4, this, rat]
theorem negated_ok (p : Int × Int) (st : Sto) : f_negated [rat p] st = .ok (rat (-p.1, p.2)) st := by
  unfold f_negated b_negated rat
  simp
theorem over_ok {p q : Int × Int} (hp : Sm p) (hq : Sm q) (h1 : 0 < p.2) (h2 : q.1 ≠ 0) (st : Sto) : f_over [rat p, rat q] st = .ok (rat (can (p.1 * q.2) (p.2 * q.1))) st := by
  obtain ⟨g1, g2, g3, g4⟩ := hp.m hq
  have := lowest_ok (p.1 * q.2) (p.2 * q.1) st (Int.mul_ne_zero (by omega) h2) (pw_le (mulB hp.2 hq.1) (by decide))
  unfold f_over b_over rat
  simp [g1, g2, g3, g4, this, rat, h2]
theorem over_bad (p : Int × Int) {q : Int × Int} (h2 : q.1 = 0) (st : Sto) : f_over [rat p, rat q] st = .ex "BadNumber" [.str "other"] st := by
  unfold f_over b_over rat
  simp [h2]
theorem less_ok {p q : Int × Int} (hp : Sm p) (hq : Sm q) (st : Sto) : f_less [rat p, rat q] st = .ok (.bl (decide (p.1 * q.2 < q.1 * p.2))) st := by
  obtain ⟨g1, g2, g3, g4⟩ := hp.m hq
  obtain ⟨k1, k2, k3, k4⟩ := hq.m hp
  unfold f_less b_less rat
  simp [g2, k2]
theorem ii : isiB "int" "int" = some true := by decide +kernel
theorem ib : isiB "int" "bool" = some false := by decide +kernel
theorem bi : isiB "bool" "int" = some true := by decide +kernel
theorem bb : isiB "bool" "bool" = some true := by decide +kernel
theorem si : isiB "str" "int" = some false := by decide +kernel
theorem ti : isiB "tuple" "int" = some false := by decide +kernel
theorem li : isiB "list" "int" = some false := by decide +kernel
theorem ni : isiB "NoneType" "int" = some false := by decide +kernel
theorem tt : isiB "tuple" "tuple" = some true := by decide +kernel
theorem ss : isiB "str" "str" = some true := by decide +kernel
theorem isint_int (i : Int) (st : Sto) : f_is_integer [.int i] st = .ok (.bl true) st := by
  unfold f_is_integer b_is_integer
  simp [ii, ib]
theorem isint_bl (i : Bool) (st : Sto) : f_is_integer [.bl i] st = .ok (.bl false) st := by
  unfold f_is_integer b_is_integer
  simp [bi, bb]
theorem isint_str (i : Str) (st : Sto) : f_is_integer [.str i] st = .ok (.bl false) st := by
  unfold f_is_integer b_is_integer
  simp [si]
theorem isint_tup (i : List D) (st : Sto) : f_is_integer [.tup i] st = .ok (.bl false) st := by
  unfold f_is_integer b_is_integer
  simp [ti]
theorem isint_lst (i : List D) (st : Sto) : f_is_integer [.lst i] st = .ok (.bl false) st := by
  unfold f_is_integer b_is_integer
  simp [li]
theorem isint_non (st : Sto) : f_is_integer [.non] st = .ok (.bl false) st := by
  unfold f_is_integer b_is_integer
  simp [ni]
theorem is_ratio_ok {p : Int × Int} (h : Can p) (st : Sto) : f_is_ratio [rat p] st = .ok (.bl true) st := by
  have e : Nat.gcd p.1.natAbs p.2.natAbs = 1 := h.2
  have e1 : 1 ≤ p.2 := h.1
  unfold f_is_ratio b_is_ratio rat
  simp [tt, isint_int, e, e1]
theorem ixA (p : Int × Int) (st : Sto) : opIx st (rat p) (.int 0) = some (.int p.1) := by simp [rat]
theorem ixB (p : Int × Int) (st : Sto) : opIx st (rat p) (.int 1) = some (.int p.2) := by simp [rat]
theorem at0 {i : Nat} {γ : Gam} {st : Sto} {p : Int × Int} (h : γ[i]? = some (some (rat p))) : e2 opIx (eVar i) (eC (.int 0)) γ st = .ok (.int p.1) st := e2_ok (var_ok h) rfl (ixA p st)
theorem at1 {i : Nat} {γ : Gam} {st : Sto} {p : Int × Int} (h : γ[i]? = some (some (rat p))) : e2 opIx (eVar i) (eC (.int 1)) γ st = .ok (.int p.2) st := e2_ok (var_ok h) rfl (ixB p st)
theorem shk_rat (k : Nat) (p : Int × Int) : D.shk (k + 1) (rat p) = true := by simp [rat]
theorem all_rat (k : Nat) : ∀ ps : List (Int × Int), (ps.map rat).all (D.shk (k + 1)) = true
  | [] => rfl
  | p :: ps => by simp only [List.map_cons, List.all_cons, shk_rat, all_rat k ps, Bool.and_self]
theorem eqv_rat (p q : Int × Int) : D.eqv (rat p) (rat q) = decide (p = q) := by
  simp [rat, Prod.ext_iff]
theorem ne_rat (p q : Int × Int) (st : Sto) : opNe st (rat p) (rat q) = some (.bl (!decide (p = q))) := by
  rw [opNe_, D.shp_eq, D.shp_eq, shk_rat, shk_rat, eqv_rat]
  rfl
theorem rats_py : ∀ ps : List (Int × Int), D.arePy (ps.map rat) = true
  | [] => rfl
  | p :: ps => by simp only [List.map_cons, D.arePy, rat, D.isPy, rats_py ps, Bool.and_self]
theorem ne_rats (ps : List (Int × Int)) (st : Sto) : opNe st (.lst (ps.map rat)) (.lst (ps.map rat)) = some (.bl false) := ne_self st (by rw [shp_lst, all_rat]) (rats_py ps)
end K01
end
section
set_option Elab.async false
set_option linter.all false
set_option maxRecDepth 100000
set_option maxHeartbeats 1000000
open PySem PySem.Spec PyProof.Rows L2 LamX FL
namespace K01
def Sz (p : Int × Int) : Prop := p.1.natAbs < 2 ^ 1000 ∧ p.2.natAbs < 2 ^ 1000
theorem Sz.sm {p : Int × Int} (h : Sz p) : Sm p := ⟨pw_le h.1 (by decide), pw_le h.2 (by decide)⟩
def cd : Option (Int × Int) → Int × Int
  | none => (1, 0)
  | some p => p
def hiD : Option (Int × Int) → D
  | none => .non
  | some p => rat p
/-- a low one and a high one -/
structure LH (a b : Int) (hi : Option (Int × Int)) : Prop where
  can : Can (a, b)
  a0 : 0 ≤ a
  sz : Sz (a, b)
  hc : ∀ p, hi = some p → Can p ∧ Sz p
  lt : a * (cd hi).2 < (cd hi).1 * b
theorem LH.b0 {a b : Int} {hi : Option (Int × Int)} (h : LH a b hi) : 0 < b := h.can.1
theorem LH.d0 {a b : Int} {hi : Option (Int × Int)} (h : LH a b hi) : 0 ≤ (cd hi).2 := by
  cases hi with
  | none => exact Int.le_refl _
  | some p => have := (h.hc p rfl).1.1; show 0 ≤ p.2; omega
def sC : TF := tAndF (tVal (e2 opNotN (eVar 1) (eC .non))) (tNotF (tVal (eCall 2 f_less (aCons (eTup (aCons (e2 opAdd (eVar 3) (eC (.int 1))) (aCons (eC (.int 1)) (aNil)))) (aCons (eVar 1) (aNil))))))
theorem w_sz {a b : Int} (h : Sz (a, b)) (a0 : 0 ≤ a) (b0 : 0 < b) : Sm (a / b + 1, 1) ∧ (a / b).natAbs < 2 ^ 1000 ∧ 0 ≤ a / b := by
  have h1 : 0 ≤ a / b := Int.ediv_nonneg a0 (by omega)
  have h2 : a / b ≤ a := Int.ediv_le_self b a0
  have h3 : (a / b).natAbs < 2 ^ 1000 := Nat.lt_of_le_of_lt (by omega) h.1
  have h4 : (2 : Nat) ^ 1000 ≤ 2 ^ 1400 := Nat.pow_le_pow_right (by decide) (by decide)
  have h5 : (2 : Nat) ^ 1500 = 2 ^ 1400 * 2 ^ 100 := by rw [← Nat.pow_add]
  have h6 : 1 ≤ (2 : Nat) ^ 1400 := Nat.one_le_two_pow
  have h7 : (2 : Nat) ^ 100 = 1267650600228229401496703205376 := by decide
  refine ⟨⟨?_, ?_⟩, h3, h1⟩
  · show (a / b + 1).natAbs < 2 ^ 1500
    generalize (2 : Nat) ^ 1400 = x at *
    rw [h5, h7]
    omega
  · show (1 : Int).natAbs < 2 ^ 1500
    generalize (2 : Nat) ^ 1400 = x at *
    rw [h5, h7]
    have : (1 : Int).natAbs = 1 := rfl
    omega
theorem cond_ok {a b : Int} {hi : Option (Int × Int)} (h : LH a b hi) (x0 x2 x4 x5 x6 x7 : Option D) (st : Sto) :
    sC [x0, some (hiD hi), x2, some (.int (a / b)), x4, x5, x6, x7] st = .ok (!decide ((a / b + 1) * (cd hi).2 < (cd hi).1)) st := by
  cases hi with
  | none =>
    have e : (!decide ((a / b + 1) * (cd none).2 < (cd none).1)) = false := by simp [cd]
    rw [e]
    exact tand_f (tval_ok (e2_ok (var_ok rfl) rfl rfl))
  | some p =>
    have hw := (w_sz h.sz h.a0 h.b0).1
    have e := less_ok hw (h.hc p rfl).2.sm st
    have e2 : decide ((a / b + 1) * p.2 < p.1 * 1) = decide ((a / b + 1) * p.2 < p.1) := by rw [Int.mul_one]
    have e' : f_less [.tup [.int (a / b + 1), .int 1], rat p] st = .ok (.bl (decide ((a / b + 1) * p.2 < p.1))) st := by rw [← e2]; exact e
    exact tand_t (tval_ok (e2_ok (var_ok rfl) rfl rfl)) (tnot_ok (tval_ok (call2 (tup_ok (two_ok (add_ok (var_ok rfl) rfl) rfl) (by simp)) (var_ok rfl) e')))
def nxt (a b : Int) : Option (Int × Int) := if a - a / b * b = 0 then none else some (b, a - a / b * b)
theorem cd_nxt (a b : Int) (h : Can (a, b)) (a0 : 0 ≤ a) : (cd (nxt a b)).1 = b ∧ (cd (nxt a b)).2 = a - a / b * b := by
  have hb : 0 < b := h.1
  unfold nxt
  split
  · rename_i e
    have e2 : a = a / b * b := by omega
    have hg : Int.gcd a b = 1 := h.2
    have : b.natAbs ∣ 1 := by
      rw [← hg]
      have d1 : b ∣ a := ⟨a / b, by rw [Int.mul_comm]; exact e2⟩
      exact Nat.dvd_gcd (Int.natAbs_dvd_natAbs.mpr d1) (Nat.dvd_refl _)
    have : b.natAbs = 1 := Nat.dvd_one.mp this
    exact ⟨by show (1 : Int) = b; omega, by show (0 : Int) = _; omega⟩
  · exact ⟨rfl, rfl⟩
theorem step_lh {a b c d : Int} (h : LH a b (some (c, d))) (hn : ¬ (a / b + 1) * d < c) : LH d (c - a / b * d) (nxt a b) ∧ c - a / b * d ≤ d ∧ (d.toNat = 0 → False) := by
  have hb := h.b0
  have hd : 0 < d := (h.hc _ rfl).1.1
  have e := Int.mul_ediv_add_emod a b
  have r0 := Int.emod_nonneg a (show b ≠ 0 by omega)
  have r1 := Int.emod_lt_of_pos a hb
  have hw := (w_sz h.sz h.a0 hb).2.2
  have hlt : a * d < c * b := h.lt
  generalize hww : a / b = w at *
  have e1 : a - w * b = a % b := by rw [Int.mul_comm w b]; omega
  have e2 : (w + 1) * d = w * d + d := by grind
  have p1 : 0 < c - w * d := by
    have k1 : w * d * b ≤ a * d := by
      have q1 : a * d = (b * w) * d + (a % b) * d := by rw [← Int.add_mul, e]
      have q2 : 0 ≤ (a % b) * d := Int.mul_nonneg r0 (by omega)
      have q3 : w * d * b = (b * w) * d := by grind
      omega
    have k2 : w * d < c := lt_of_mul hb (Int.lt_of_le_of_lt k1 hlt)
    omega
  have hcan := cd_nxt a b h.can h.a0
  rw [hww] at hcan
  have p2 : c - w * d ≤ d := by omega
  refine ⟨⟨⟨p1, ?_⟩, by omega, ⟨(h.hc _ rfl).2.2, ?_⟩, ?_, ?_⟩, p2, by omega⟩
  · show Int.gcd d (c - w * d) = 1
    have : c - w * d = c + d * (-w) := by grind
    rw [this, Int.gcd_add_mul_left_right, Int.gcd_comm]
    exact (h.hc _ rfl).1.2
  · exact Nat.lt_of_le_of_lt (by show (c - w * d).natAbs ≤ d.natAbs; omega) (h.hc _ rfl).2.2
  · intro p hp
    unfold nxt at hp
    rw [hww] at hp
    split at hp
    · cases hp
    · rename_i hne
      cases hp
      refine ⟨⟨by show 0 < a - w * b; omega, ?_⟩, h.sz.2, Nat.lt_of_le_of_lt (by show (a - w * b).natAbs ≤ b.natAbs; omega) h.sz.2⟩
      show Int.gcd b (a - w * b) = 1
      have : a - w * b = a + b * (-w) := by grind
      rw [this, Int.gcd_add_mul_left_right, Int.gcd_comm]
      exact h.can.2
  · rw [hcan.1, hcan.2]
    have q1 : d * (a - w * b) = a * d - w * d * b := by grind
    have q2 : b * (c - w * d) = c * b - w * d * b := by grind
    omega
theorem stepB {a b c d : Int} (h : LH a b (some (c, d))) (hn : ¬ (a / b + 1) * d < c) {N : Nat} {xs : List D} {st : Sto} (hs : st[N]? = some (some (.lst xs))) (hl : xs.length < 16777216) (x4 x5 x6 x7 : Option D) :
    ∃ x4' x5' : Option D, b_simplest_above_1b [some (rat (a, b)), some (rat (c, d)), some (.cell N), some (.int (a / b)), x4, x5, x6, x7] st =
      .nx [some (rat (d, c - a / b * d)), some (hiD (nxt a b)), some (.cell N), some (.int (d / (c - a / b * d))), x4', x5', x6, x7] (st.set N (some (.lst (xs ++ [.int (a / b)])))) := by
  obtain ⟨hL, hle, _⟩ := step_lh h hn
  have hb := h.b0
  have hd : 0 < d := (h.hc _ rfl).1.1
  obtain ⟨w1, w2, w3⟩ := w_sz h.sz h.a0 hb
  have szw : Sm (a / b, 1) := ⟨pw_le w2 (by decide), (w1.2 : (1 : Int).natAbs < 2 ^ 1500)⟩
  have e0 : b_simplest_above_1b_0 [some (rat (a, b)), some (rat (c, d)), some (.cell N), some (.int (a / b)), x4, x5, x6, x7] st = .nx [some (rat (a, b)), some (rat (c, d)), some (.cell N), some (.int (a / b)), x4, x5, x6, x7] (st.set N (some (.lst (xs ++ [.int (a / b)])))) :=
    drop_ok (app_ok (var_ok rfl) hs (var_ok rfl) hs hl)
  generalize st.set N (some (.lst (xs ++ [.int (a / b)]))) = st1 at *
  have g1 := mgd w2 h.sz.2 (by decide)
  have e1 : b_simplest_above_1b_1 [some (rat (a, b)), some (rat (c, d)), some (.cell N), some (.int (a / b)), x4, x5, x6, x7] st1 = .nx [some (rat (a, b)), some (rat (c, d)), some (.cell N), some (.int (a / b)), some (.int (a - a / b * b)), x5, x6, x7] st1 :=
    set_ok (sub_ok (at0 (p := (a, b)) rfl) (mul_ok (var_ok rfl) (at1 (p := (a, b)) rfl) g1))
  have e2 : b_simplest_above_1b_2 [some (rat (a, b)), some (rat (c, d)), some (.cell N), some (.int (a / b)), some (.int (a - a / b * b)), x5, x6, x7] st1 = .nx [some (rat (a, b)), some (rat (c, d)), some (.cell N), some (.int (a / b)), some (.int (a - a / b * b)), some (hiD (nxt a b)), x6, x7] st1 := by
    by_cases hz : a - a / b * b = 0
    · have q : hiD (nxt a b) = .non := by unfold nxt; rw [if_pos hz]; rfl
      rw [q]
      have t : opEq st1 (.int (a - a / b * b)) (.int 0) = some (.bl true) := by simp [hz]
      exact set_ok (eif_t (tval_ok (e2_ok (var_ok rfl) rfl t)) rfl)
    · have q : nxt a b = some (b, a - a / b * b) := by unfold nxt; rw [if_neg hz]
      have hcn := hL.hc _ q
      have t : opEq st1 (.int (a - a / b * b)) (.int 0) = some (.bl false) := by simp [hz]
      have lo := lowest_ok b (a - a / b * b) st1 hz (pw_le hcn.2.2 (by decide))
      rw [can_self hcn.1] at lo
      rw [q]
      exact set_ok (eif_f (tval_ok (e2_ok (var_ok rfl) rfl t)) (call2 (at1 (p := (a, b)) rfl) (var_ok rfl) lo))
  have hp : 0 < c - a / b * d := hL.can.1
  have cg : Can (c - a / b * d, d) := ⟨hd, by show Int.gcd (c - a / b * d) d = 1; rw [Int.gcd_comm]; exact hL.can.2⟩
  have mi := minus_ok (h.hc _ rfl).2.sm szw hd (show (0 : Int) < 1 by decide) st1
  have mi2 : can (c * 1 - a / b * d) (d * 1) = (c - a / b * d, d) := by rw [Int.mul_one, Int.mul_one]; exact can_self cg
  have szm : Sm (c - a / b * d, d) := ⟨hL.sz.sm.2, hL.sz.sm.1⟩
  have ov := over_ok (p := (1, 1)) (q := (c - a / b * d, d)) ⟨w1.2, w1.2⟩ szm (by decide) (by show c - a / b * d ≠ 0; omega) st1
  have ov2 : can (1 * d) (1 * (c - a / b * d)) = (d, c - a / b * d) := by rw [Int.one_mul, Int.one_mul]; exact can_self hL.can
  have mi3 : f_minus [rat (c, d), .tup [.int (a / b), .int 1]] st1 = .ok (rat (c - a / b * d, d)) st1 := by rw [← mi2]; exact mi
  have ov3 : f_over [k_ONE, rat (c - a / b * d, d)] st1 = .ok (rat (d, c - a / b * d)) st1 := by rw [← ov2]; exact ov
  have e3 : b_simplest_above_1b_3 [some (rat (a, b)), some (rat (c, d)), some (.cell N), some (.int (a / b)), some (.int (a - a / b * b)), some (hiD (nxt a b)), x6, x7] st1 = .nx [some (rat (d, c - a / b * d)), some (hiD (nxt a b)), some (.cell N), some (.int (a / b)), some (.int (a - a / b * b)), some (hiD (nxt a b)), x6, x7] st1 :=
    par2_ok (two_ok (call2 rfl (call2 (var_ok rfl) (tup_ok (two_ok (var_ok rfl) rfl) (by simp)) mi3) ov3) (var_ok rfl))
  have lg2 := lg (n := (c - a / b * d).natAbs) 1000 (pw_le hL.sz.2 (by decide))
  have e4 : b_simplest_above_1b_4 [some (rat (d, c - a / b * d)), some (hiD (nxt a b)), some (.cell N), some (.int (a / b)), some (.int (a - a / b * b)), some (hiD (nxt a b)), x6, x7] st1 = .nx [some (rat (d, c - a / b * d)), some (hiD (nxt a b)), some (.cell N), some (.int (d / (c - a / b * d))), some (.int (a - a / b * b)), some (hiD (nxt a b)), x6, x7] st1 :=
    set_ok (div_ok (at0 (p := (d, c - a / b * d)) rfl) (at1 (p := (d, c - a / b * d)) rfl) hp (by show (c - a / b * d).natAbs.log2 < 9000; omega))
  exact ⟨_, _, seq_to e0 (seq_to e1 (seq_to e2 (seq_to e3 e4)))⟩
end K01
end
section
set_option Elab.async false
set_option linter.all false
set_option maxRecDepth 100000
set_option maxHeartbeats 1000000
open PySem PySem.Spec PyProof.Rows L2 LamX FL
namespace K01
/-- what is folded back keeps small -/
def GoodF : List Int → Int → Prop
  | [], w => Sm (w + 1, 1) ∧ 0 < w + 1
  | m :: ms, w => GoodF ms w ∧ Sm (fold (m :: ms) w) ∧ m.natAbs < 2 ^ 1000 ∧ 0 < (fold ms w).1 ∧ 0 < (fold ms w).2
theorem smp_sm {a b : Int} {hi : Option (Int × Int)} (h : LH a b hi) {p q : Int} (s : Smp a b (cd hi).1 (cd hi).2 p q) : Sm (p, q) := by
  have z := smp_le h.b0 h.d0 h.lt s
  have h1 := h.sz.1
  have h2 := h.sz.2
  have h3 : Sz (cd hi) := by
    cases hi with
    | none => exact ⟨by show (1 : Int).natAbs < _; exact Nat.lt_of_lt_of_le (show 1 < 2 ^ 1 by decide) (Nat.pow_le_pow_right (by decide) (by decide)), by show (0 : Int).natAbs < _; exact Nat.two_pow_pos _⟩
    | some p => exact (h.hc p rfl).2
  have b1 := addB h1 h3.1
  have b2 := addB h2 h3.2
  have p0 := s.1
  have q0 := s.2.1
  refine ⟨pw_le (k := 1000 + 1) (Nat.lt_of_le_of_lt ?_ b1) (by decide), pw_le (k := 1000 + 1) (Nat.lt_of_le_of_lt ?_ b2) (by decide)⟩
  · show p.natAbs ≤ (a + (cd hi).1).natAbs
    omega
  · show q.natAbs ≤ (b + (cd hi).2).natAbs
    omega
/-- what the loop leaves -/
def LoopR (N : Nat) (st : Sto) (xs : List D) (L : Nat) (a b : Int) (hi : Option (Int × Int)) (x6 x7 : Option D) (f : Fl) : Prop :=
  ∃ (ms : List Int) (w : Int) (x0 x1 x4 x5 : Option D), f = .nx [x0, x1, some (.cell N), some (.int w), x4, x5, x6, x7] (st.set N (some (.lst (xs ++ ms.map D.int)))) ∧ ms.length ≤ L ∧ Smp a b (cd hi).1 (cd hi).2 (fold ms w).1 (fold ms w).2 ∧ GoodF ms w
abbrev Γ (N : Nat) (a b : Int) (hi : Option (Int × Int)) (x4 x5 x6 x7 : Option D) : Gam := [some (rat (a, b)), some (hiD hi), some (.cell N), some (.int (a / b)), x4, x5, x6, x7]
theorem set_same {st : Sto} {N : Nat} {c : Option Cell} (h : st[N]? = some c) : st.set N c = st := by
  apply List.ext_getElem?
  intro j
  by_cases e : j = N
  · subst e
    have hl : j < st.length := by
      apply Decidable.byContradiction
      intro z
      rw [List.getElem?_eq_none (by omega)] at h
      cases h
    rw [List.getElem?_set_self hl, h]
  · rw [List.getElem?_set_ne (Ne.symm e)]
theorem loop_stop {n N : Nat} {a b : Int} {hi : Option (Int × Int)} (h : LH a b hi) (hs : (a / b + 1) * (cd hi).2 < (cd hi).1) {st : Sto} {xs : List D} (hst : st[N]? = some (some (.lst xs))) (L : Nat) (x4 x5 x6 x7 : Option D) :
    LoopR N st xs L a b hi x6 x7 (whileF sC b_simplest_above_1b (n + 1) (Γ N a b hi x4 x5 x6 x7) st) := by
  have c := cond_ok h (some (rat (a, b))) (some (.cell N)) x4 x5 x6 x7 st
  rw [decide_eq_true hs] at c
  have hw := w_sz h.sz h.a0 h.b0
  refine ⟨[], a / b, some (rat (a, b)), some (hiD hi), x4, x5, ?_, by simp, smp_base h.b0 h.d0 h.a0 rfl hs, hw.1, by omega⟩
  rw [whl_no c]
  simp only [List.map_nil, List.append_nil]
  rw [set_same hst]
theorem loop_step {n N : Nat} {a b c d : Int} (h : LH a b (some (c, d))) (hn : ¬ (a / b + 1) * d < c) {st : Sto} {xs : List D} (hst : st[N]? = some (some (.lst xs))) (hl : xs.length < 16777216) {L : Nat} (x4 x5 x6 x7 : Option D)
    (ih : ∀ x4 x5, LoopR N (st.set N (some (.lst (xs ++ [.int (a / b)])))) (xs ++ [.int (a / b)]) L d (c - a / b * d) (nxt a b) x6 x7 (whileF sC b_simplest_above_1b n (Γ N d (c - a / b * d) (nxt a b) x4 x5 x6 x7) (st.set N (some (.lst (xs ++ [.int (a / b)])))))) :
    LoopR N st xs (L + 1) a b (some (c, d)) x6 x7 (whileF sC b_simplest_above_1b (n + 1) (Γ N a b (some (c, d)) x4 x5 x6 x7) st) := by
  have cnd := cond_ok h (some (rat (a, b))) (some (.cell N)) x4 x5 x6 x7 st
  rw [decide_eq_false (show ¬ (a / b + 1) * (cd (some (c, d))).2 < (cd (some (c, d))).1 from hn)] at cnd
  obtain ⟨y4, y5, eb⟩ := stepB h hn hst hl x4 x5 x6 x7
  obtain ⟨ms, w, z0, z1, z4, z5, e, hL, hS, hG⟩ := ih y4 y5
  have hc := cd_nxt a b h.can h.a0
  rw [hc.1, hc.2] at hS
  have hS2 : Smp a b c d (a / b * (fold ms w).1 + (fold ms w).2) (fold ms w).1 := smp_step h.b0 h.a0 rfl hS
  refine ⟨a / b :: ms, w, z0, z1, z4, z5, ?_, by simp; omega, hS2, hG, smp_sm h hS2, (w_sz h.sz h.a0 h.b0).2.1, hS.1, hS.2.1⟩
  rw [whl_nx cnd eb e]
  simp only [List.set_set, List.append_assoc, List.map_cons, List.singleton_append]
theorem loop_ok : ∀ (m n N : Nat) (a b : Int) (hi : Option (Int × Int)) (st : Sto) (xs : List D) (x4 x5 x6 x7 : Option D), LH a b hi → (cd hi).2 < 2 ^ m → 2 * m + 2 ≤ n → st[N]? = some (some (.lst xs)) → xs.length + 2 * m < 10000 →
    LoopR N st xs (2 * m) a b hi x6 x7 (whileF sC b_simplest_above_1b n (Γ N a b hi x4 x5 x6 x7) st) := by
  intro m
  induction m with
  | zero =>
    intro n N a b hi st xs x4 x5 x6 x7 h hm hn hst hl
    have hd0 := h.d0
    have e : (cd hi).2 = 0 := by
      have : (2 : Int) ^ 0 = 1 := rfl
      omega
    have hs : (a / b + 1) * (cd hi).2 < (cd hi).1 := by
      have z := h.lt
      rw [e, Int.mul_zero] at z ⊢
      have hb := h.b0
      apply Decidable.byContradiction
      intro q
      have : (cd hi).1 * b ≤ 0 * b := Int.mul_le_mul_of_nonneg_right (by omega) (by omega)
      omega
    obtain ⟨k, rfl⟩ : ∃ k, n = k + 1 := ⟨n - 1, by omega⟩
    exact loop_stop h hs hst _ x4 x5 x6 x7
  | succ m ihm =>
    intro n N a b hi st xs x4 x5 x6 x7 h hm hn hst hl
    obtain ⟨k, rfl⟩ : ∃ k, n = k + 1 := ⟨n - 1, by omega⟩
    by_cases hs : (a / b + 1) * (cd hi).2 < (cd hi).1
    · exact loop_stop h hs hst _ x4 x5 x6 x7
    · cases hi with
      | none => exact absurd (show (a / b + 1) * 0 < 1 by rw [Int.mul_zero]; decide) hs
      | some p =>
        obtain ⟨c, d⟩ := p
        have hN : N < st.length := by
          apply Decidable.byContradiction
          intro z
          rw [List.getElem?_eq_none (by omega)] at hst
          cases hst
        obtain ⟨hL, hle, _⟩ := step_lh h hs
        refine loop_step (L := 2 * m + 1) h hs hst (by omega) x4 x5 x6 x7 fun y4 y5 => ?_
        have hst1 : (st.set N (some (.lst (xs ++ [.int (a / b)]))))[N]? = some (some (.lst (xs ++ [.int (a / b)]))) := List.getElem?_set_self hN
        generalize st.set N (some (.lst (xs ++ [.int (a / b)]))) = st1 at *
        obtain ⟨j, rfl⟩ : ∃ j, k = j + 1 := ⟨k - 1, by omega⟩
        generalize hxs : xs ++ [D.int (a / b)] = xs1 at *
        have hxl : xs1.length = xs.length + 1 := by rw [← hxs]; simp
        generalize hbb : c - a / b * d = b1 at *
        generalize nxt a b = hi1 at *
        by_cases hs2 : (d / b1 + 1) * (cd hi1).2 < (cd hi1).1
        · obtain ⟨ms, w, z0, z1, z4, z5, e, hl2, hS, hG⟩ := loop_stop (n := j) hL hs2 hst1 (2 * m + 1) y4 y5 x6 x7
          exact ⟨ms, w, z0, z1, z4, z5, e, hl2, hS, hG⟩
        · cases hi1 with
          | none => exact absurd (show (d / b1 + 1) * 0 < 1 by rw [Int.mul_zero]; decide) hs2
          | some p1 =>
            obtain ⟨c1, d1⟩ := p1
            obtain ⟨hL2, _, _⟩ := step_lh hL hs2
            have hN1 : N < st1.length := by
              apply Decidable.byContradiction
              intro z
              rw [List.getElem?_eq_none (by omega)] at hst1
              cases hst1
            refine loop_step (L := 2 * m) hL hs2 hst1 (by omega) y4 y5 x6 x7 fun u4 u5 => ?_
            refine ihm j N d1 _ _ _ _ u4 u5 x6 x7 hL2 ?_ (by omega) (List.getElem?_set_self hN1) (by simp; omega)
            have hc := cd_nxt d b1 hL.can hL.a0
            rw [hc.2]
            have b1p := hL.b0
            have e := Int.mul_ediv_add_emod d b1
            have r1 := Int.emod_lt_of_pos d b1p
            have q1 : 1 ≤ d / b1 := (Int.le_ediv_iff_mul_le b1p).mpr (by omega)
            have q2 : b1 * 1 ≤ b1 * (d / b1) := Int.mul_le_mul_of_nonneg_left q1 (by omega)
            have q3 : d / b1 * b1 = b1 * (d / b1) := Int.mul_comm _ _
            have q4 : (2 : Int) ^ (m + 1) = 2 * 2 ^ m := by rw [Int.pow_succ]; omega
            have hm' : d < 2 ^ (m + 1) := hm
            generalize (2 : Int) ^ m = M at *
            omega
/-- folding back, by the loop -/
theorem fold_for (N : Nat) (x0 x1 x3 x4 x5 x7 : Option D) : ∀ (ms : List Int) (w : Int) (x7 : Option D) (st : Sto), GoodF ms w →
    ∃ y7 : Option D, forL (.nm 7) b_simplest_above_3b (ms.reverse.map D.int) [x0, x1, some (.cell N), x3, x4, x5, some (rat (w + 1, 1)), x7] st = .nx [x0, x1, some (.cell N), x3, x4, x5, some (rat (fold ms w)), y7] st
  | [], w, x7, st, _ => ⟨x7, rfl⟩
  | m :: ms, w, x7, st, hg => by
    obtain ⟨h1, h2, h3, h4, h5⟩ := hg
    obtain ⟨y7, e⟩ := fold_for N x0 x1 x3 x4 x5 x7 ms w x7 st h1
    have hsm : Sm (fold ms w) := by
      cases ms with
      | nil => exact h1.1
      | cons k ks => exact h1.2.1
    have hcn : Can ((fold ms w).2, (fold ms w).1) := ⟨h4, by show Int.gcd (fold ms w).2 (fold ms w).1 = 1; rw [Int.gcd_comm]; exact fold_can ms w⟩
    have one : Sm (1, 1) := by
      have : (1 : Int).natAbs < 2 ^ 1500 := Nat.lt_of_lt_of_le (show 1 < 2 ^ 1 by decide) (Nat.pow_le_pow_right (by decide) (by decide))
      exact ⟨this, this⟩
    have ov := over_ok (p := (1, 1)) (q := fold ms w) one hsm (by decide) (by omega) st
    have ov2 : can (1 * (fold ms w).2) (1 * (fold ms w).1) = ((fold ms w).2, (fold ms w).1) := by rw [Int.one_mul, Int.one_mul]; exact can_self hcn
    have ov3 : f_over [k_ONE, rat (fold ms w)] st = .ok (rat ((fold ms w).2, (fold ms w).1)) st := by rw [← ov2]; exact ov
    have pl := plus_ok (p := (m, 1)) (q := ((fold ms w).2, (fold ms w).1)) ⟨pw_le h3 (by decide), one.2⟩ ⟨hsm.2, hsm.1⟩ (show (0 : Int) < 1 by decide) h4 st
    have pl2 : can (m * (fold ms w).1 + (fold ms w).2 * 1) (1 * (fold ms w).1) = fold (m :: ms) w := by
      rw [Int.mul_one, Int.one_mul]
      exact can_self (p := fold (m :: ms) w) ⟨h4, fold_can (m :: ms) w⟩
    have pl3 : f_plus [.tup [.int m, .int 1], rat ((fold ms w).2, (fold ms w).1)] st = .ok (rat (fold (m :: ms) w)) st := by rw [← pl2]; exact pl
    refine ⟨some (.int m), ?_⟩
    rw [List.reverse_cons, List.map_append]
    refine forL_app (fun d γ st γ2 st2 z => ?_) e (forL_nx rfl (set_ok (call2 (tup_ok (two_ok (var_ok rfl) rfl) (by simp)) (call2 rfl (var_ok rfl) ov3) pl3)) forL_nil)
    unfold b_simplest_above_3b at z
    simp only [sAsg, Res.fl] at z
    split at z
    · simp only [kPut, Tg.put] at z
      cases z
    · cases z
    · cases z
/-- the simplest above -/
theorem above_ok {a b c d : Int} (h : LH a b (some (c, d))) (st : Sto) :
    ∃ (p q : Int) (ce : Cell), f_simplest_above [rat (a, b), rat (c, d)] st = .ok (rat (p, q)) (st ++ [some ce]) ∧ Smp a b c d p q ∧ Can (p, q) ∧ Sm (p, q) := by
  have hb := h.b0
  have hd : 0 < d := (h.hc _ rfl).1.1
  have lg2 := lg (n := b.natAbs) 1000 (pw_le h.sz.2 (by decide))
  have e0 : b_simplest_above_0 (startG 8 [rat (a, b), rat (c, d)]) st = .nx (Γ st.length a b (some (c, d)) none none none none) (st ++ [some (.lst [])]) :=
    par2_ok (two_ok (cel_ok nil_ok (by simp)) (div_ok (at0 (p := (a, b)) rfl) (at1 (p := (a, b)) rfl) hb (by show b.natAbs.log2 < 9000; omega)))
  have hst : (st ++ [some (Cell.lst [])])[st.length]? = some (some (.lst [])) := by simp
  have hds : (cd (some (c, d))).2 < 2 ^ 1000 := by
    have z := (h.hc _ rfl).2.2
    have z2 : d.natAbs < 2 ^ 1000 := z
    show d < 2 ^ 1000
    have e : ((2 ^ 1000 : Nat) : Int) = (2 : Int) ^ 1000 := by simp
    rw [← e]
    generalize (2 ^ 1000 : Nat) = M at *
    omega
  obtain ⟨ms, w, x0, x1, x4, x5, e1, hl, hS, hG⟩ := loop_ok 1000 10000 st.length a b (some (c, d)) (st ++ [some (.lst [])]) [] none none none none h hds (by omega) hst (by simp)
  have es : (st ++ [some (Cell.lst [])]).set st.length (some (.lst ([] ++ ms.map D.int))) = st ++ [some (.lst (ms.map D.int))] := by
    rw [List.set_append_right _ _ (by omega)]
    simp
  rw [es] at e1
  obtain ⟨y7, e3⟩ := fold_for st.length x0 x1 (some (.int w)) x4 x5 none ms w none (st ++ [some (.lst (ms.map D.int))]) hG
  have hst2 : (st ++ [some (Cell.lst (ms.map D.int))])[st.length]? = some (some (.lst (ms.map D.int))) := by simp
  have e2 : b_simplest_above_2 [x0, x1, some (.cell st.length), some (.int w), x4, x5, none, none] (st ++ [some (.lst (ms.map D.int))]) = .nx [x0, x1, some (.cell st.length), some (.int w), x4, x5, some (rat (w + 1, 1)), none] (st ++ [some (.lst (ms.map D.int))]) :=
    set_ok (tup_ok (two_ok (add_ok (var_ok rfl) rfl) rfl) (by simp))
  have e3' : b_simplest_above_3 [x0, x1, some (.cell st.length), some (.int w), x4, x5, some (rat (w + 1, 1)), none] (st ++ [some (.lst (ms.map D.int))]) = .nx [x0, x1, some (.cell st.length), some (.int w), x4, x5, some (rat (fold ms w)), y7] (st ++ [some (.lst (ms.map D.int))]) := by
    refine for_ok (any_ok (rev_cell (var_ok rfl) hst2)) ?_
    rw [← List.map_reverse]
    exact e3
  have hsm : Sm (fold ms w) := smp_sm h hS
  refine ⟨(fold ms w).1, (fold ms w).2, .lst (ms.map D.int), ?_, hS, ⟨hS.2.1, fold_can ms w⟩, hsm⟩
  have e1' : b_simplest_above_1 (Γ st.length a b (some (c, d)) none none none none) (st ++ [some (.lst [])]) = .nx [x0, x1, some (.cell st.length), some (.int w), x4, x5, none, none] (st ++ [some (.lst (ms.map D.int))]) := e1
  refine body_rt ?_
  rw [b_simplest_above_eq]
  exact seq_to e0 (seq_to e1' (seq_to e2 (seq_to e3' (ret_ok (var_ok rfl)))))
end K01
end
section
set_option Elab.async false
set_option linter.all false
set_option maxRecDepth 100000
set_option maxHeartbeats 1000000
open PySem PySem.Spec PyProof.Rows L2 LamX FL
namespace K01
def ltB (p q : Int × Int) : Bool := decide (p.1 * q.2 < q.1 * p.2)
/-- what the simplest one is -/
def SPEC (p q s : Int × Int) : Prop :=
  (p.1 < 0 ∧ 0 < q.1 ∧ s = (0, 1)) ∨ (0 ≤ p.1 ∧ Smp p.1 p.2 q.1 q.2 s.1 s.2) ∨ (p.1 < 0 ∧ q.1 ≤ 0 ∧ Smp (-q.1) q.2 (-p.1) p.2 (-s.1) s.2)
theorem zero_sm : Sm (0, 1) := by
  have h1 : (1 : Int).natAbs < 2 ^ 1500 := Nat.lt_of_lt_of_le (show 1 < 2 ^ 1 by decide) (Nat.pow_le_pow_right (by decide) (by decide))
  exact ⟨Nat.two_pow_pos _, h1⟩
theorem neg_can {p : Int × Int} (h : Can p) : Can (-p.1, p.2) := ⟨h.1, by show Int.gcd (-p.1) p.2 = 1; rw [Int.neg_gcd]; exact h.2⟩
theorem neg_sz {p : Int × Int} (h : Sz p) : Sz (-p.1, p.2) := ⟨by show (-p.1).natAbs < _; rw [Int.natAbs_neg]; exact h.1, h.2⟩
theorem lessZ {p : Int × Int} (h : Sz p) (st : Sto) : f_less [rat p, k_ZERO] st = .ok (.bl (decide (p.1 < 0))) st := by
  have e := less_ok h.sm zero_sm st
  have e2 : decide (p.1 * 1 < 0 * p.2) = decide (p.1 < 0) := by rw [Int.mul_one, Int.zero_mul]
  rw [← e2]
  exact e
theorem lessZ' {p : Int × Int} (h : Sz p) (st : Sto) : f_less [k_ZERO, rat p] st = .ok (.bl (decide (0 < p.1))) st := by
  have e := less_ok zero_sm h.sm st
  have e2 : decide (0 * p.2 < p.1 * 1) = decide (0 < p.1) := by rw [Int.mul_one, Int.zero_mul]
  rw [← e2]
  exact e
theorem simplest_bad {p q : Int × Int} (hp : Sz p) (hq : Sz q) (h : ltB p q = false) (st : Sto) : f_simplest [rat p, rat q] st = .ex "Misfit" [.str "high"] st := by
  have e := less_ok hp.sm hq.sm st
  have e2 : decide (p.1 * q.2 < q.1 * p.2) = false := h
  rw [e2] at e
  refine body_ex (γ := startG 2 [rat p, rat q]) ?_
  rw [b_simplest_eq]
  exact seq_ex (if_t (tnot_ok (tval_ok (call2 (var_ok rfl) (var_ok rfl) e))) (raise_ok (one_ok rfl) rfl))
/-- only more cells -/
def More (st st1 : Sto) : Prop := ∃ m, st1 = st ++ m
theorem More.refl (st : Sto) : More st st := ⟨[], by simp⟩
theorem simplest_ok {p q : Int × Int} (cp : Can p) (cq : Can q) (hp : Sz p) (hq : Sz q) (h : p.1 * q.2 < q.1 * p.2) (st : Sto) :
    ∃ (s : Int × Int) (st1 : Sto), f_simplest [rat p, rat q] st = .ok (rat s) st1 ∧ SPEC p q s ∧ More st st1 := by
  have e := less_ok hp.sm hq.sm st
  rw [decide_eq_true h] at e
  have e0 : b_simplest_0 (startG 2 [rat p, rat q]) st = .nx (startG 2 [rat p, rat q]) st := if_no (tnot_ok (tval_ok (call2 (var_ok rfl) (var_ok rfl) e)))
  have z1 := lessZ hp st
  have z2 := lessZ' hq st
  by_cases a : p.1 < 0
  · rw [decide_eq_true a] at z1
    by_cases b : 0 < q.1
    · rw [decide_eq_true b] at z2
      refine ⟨(0, 1), st, body_rt ?_, .inl ⟨a, b, rfl⟩, .refl st⟩
      rw [b_simplest_eq]
      exact seq_to e0 (seq_rt (if_t (tand_t (tval_ok (call2 (var_ok rfl) rfl z1)) (tval_ok (call2 rfl (var_ok rfl) z2))) (ret_ok rfl)))
    · rw [decide_eq_false b] at z2
      have hL : LH (-q.1) q.2 (some (-p.1, p.2)) := ⟨neg_can cq, by omega, neg_sz hq, fun r hr => by cases hr; exact ⟨neg_can cp, neg_sz hp⟩, by
        show -q.1 * p.2 < -p.1 * q.2
        rw [Int.neg_mul, Int.neg_mul]
        omega⟩
      obtain ⟨u, v, ce, e3, hS, hC, hs⟩ := above_ok hL st
      have n1 := negated_ok q st
      have n2 := negated_ok p st
      have n3 := negated_ok (u, v) (st ++ [some ce])
      refine ⟨(-u, v), st ++ [some ce], body_rt ?_, .inr (.inr ⟨a, by omega, by simpa using hS⟩), ⟨_, rfl⟩⟩
      rw [b_simplest_eq]
      exact seq_to e0 (seq_to (if_no (tand_t (tval_ok (call2 (var_ok rfl) rfl z1)) (tval_ok (call2 rfl (var_ok rfl) z2)))) (seq_to (if_no (tnot_ok (tval_ok (call2 (var_ok rfl) rfl z1)))) (ret_ok (call1 (call2 (call1 (var_ok rfl) n1) (call1 (var_ok rfl) n2) e3) n3))))
  · rw [decide_eq_false a] at z1
    have hL : LH p.1 p.2 (some q) := ⟨cp, by omega, hp, fun r hr => by cases hr; exact ⟨cq, hq⟩, h⟩
    obtain ⟨u, v, ce, e3, hS, hC, hs⟩ := above_ok hL st
    refine ⟨(u, v), st ++ [some ce], body_rt ?_, .inr (.inl ⟨by omega, hS⟩), ⟨_, rfl⟩⟩
    rw [b_simplest_eq]
    exact seq_to e0 (seq_to (if_no (tand_f (tval_ok (call2 (var_ok rfl) rfl z1)))) (seq_rt (if_t (tnot_ok (tval_ok (call2 (var_ok rfl) rfl z1))) (ret_ok (call2 (var_ok rfl) (var_ok rfl) e3)))))
/-! ### by going through all bottoms -/
def fst (p : Int × Int) (y : Int) : Int := p.1 * y / p.2 + 1
def lst (q : Int × Int) (y : Int) : Int := -(-q.1 * y / q.2) - 1
theorem btw_iff {p q : Int × Int} (hp : 0 < p.2) (hq : 0 < q.2) (x y : Int) : Btw p.1 p.2 q.1 q.2 x y ↔ fst p y ≤ x ∧ x ≤ lst q y := by
  unfold Btw fst lst
  have h1 : p.1 * y / p.2 < x ↔ p.1 * y < x * p.2 := Int.ediv_lt_iff_lt_mul hp
  have h2 : -q.1 * y / q.2 < -x ↔ -q.1 * y < -x * q.2 := Int.ediv_lt_iff_lt_mul hq
  have h3 : -q.1 * y = -(q.1 * y) := Int.neg_mul _ _
  have h4 : -x * q.2 = -(x * q.2) := Int.neg_mul _ _
  rw [h3, h4] at h2
  rw [h3]
  constructor
  · intro ⟨a, b⟩
    have := h1.mpr a
    have := h2.mpr (by omega)
    omega
  · intro ⟨a, b⟩
    have := h1.mp (by omega)
    have := h2.mp (by omega)
    omega
def pickB (f l : Int) : Int := if f ≤ 0 ∧ 0 ≤ l then 0 else if 0 < f then f else l
theorem SPEC.none {p q s : Int × Int} (hp : 0 < p.2) (hq : 0 < q.2) (h : SPEC p q s) {y : Int} (y0 : 0 < y) (hy : y < s.2) : ¬ fst p y ≤ lst q y := by
  intro z
  have b := (btw_iff hp hq (fst p y) y).mpr ⟨Int.le_refl _, z⟩
  rcases h with ⟨a1, a2, rfl⟩ | ⟨a1, a2⟩ | ⟨a1, a2, a3⟩
  · have : y < 1 := hy
    omega
  · have := a2.2.2.2 _ _ y0 b
    omega
  · have := a3.2.2.2 (-(fst p y)) y y0 ⟨by
      have := b.2
      rw [Int.neg_mul, Int.neg_mul]; omega, by
      have := b.1
      rw [Int.neg_mul, Int.neg_mul]; omega⟩
    omega
theorem SPEC.some {p q s : Int × Int} (hp : 0 < p.2) (hq : 0 < q.2) (h : SPEC p q s) : 0 < s.2 ∧ fst p s.2 ≤ lst q s.2 ∧ pickB (fst p s.2) (lst q s.2) = s.1 := by
  rcases h with ⟨a1, a2, rfl⟩ | ⟨a1, a2⟩ | ⟨a1, a2, a3⟩
  · have b : Btw p.1 p.2 q.1 q.2 0 1 := ⟨by omega, by omega⟩
    have z := (btw_iff hp hq 0 1).mp b
    refine ⟨by decide, by show fst p 1 ≤ lst q 1; omega, ?_⟩
    show pickB (fst p 1) (lst q 1) = 0
    unfold pickB
    rw [if_pos z]
  · obtain ⟨s1, s2, s3, s4⟩ := a2
    have z := (btw_iff hp hq s.1 s.2).mp s3
    have b := (btw_iff hp hq (fst p s.2) s.2).mpr ⟨Int.le_refl _, by omega⟩
    have := s4 _ _ s2 b
    have f0 : 0 < fst p s.2 := by
      apply Decidable.byContradiction
      intro n
      have q1 : (fst p s.2) * p.2 ≤ 0 * p.2 := Int.mul_le_mul_of_nonneg_right (by omega) (by omega)
      have q2 : 0 ≤ p.1 * s.2 := Int.mul_nonneg a1 (by omega)
      have := b.1
      omega
    refine ⟨s2, by omega, ?_⟩
    unfold pickB
    rw [if_neg (by omega), if_pos f0]
    omega
  · obtain ⟨s1, s2, s3, s4⟩ := a3
    have s3' : Btw p.1 p.2 q.1 q.2 s.1 s.2 := ⟨by
      have := s3.2
      rw [Int.neg_mul, Int.neg_mul] at this; omega, by
      have := s3.1
      rw [Int.neg_mul, Int.neg_mul] at this; omega⟩
    have z := (btw_iff hp hq s.1 s.2).mp s3'
    have b := (btw_iff hp hq (lst q s.2) s.2).mpr ⟨by omega, Int.le_refl _⟩
    have := s4 (-(lst q s.2)) s.2 s2 ⟨by
      have := b.2
      rw [Int.neg_mul, Int.neg_mul]; omega, by
      have := b.1
      rw [Int.neg_mul, Int.neg_mul]; omega⟩
    have l0 : lst q s.2 < 0 := by
      apply Decidable.byContradiction
      intro n
      have q1 : 0 * q.2 ≤ lst q s.2 * q.2 := Int.mul_le_mul_of_nonneg_right (by omega) (by omega)
      have q2 : q.1 * s.2 ≤ 0 * s.2 := Int.mul_le_mul_of_nonneg_right a2 (by omega)
      have := b.2
      omega
    refine ⟨s2, by omega, ?_⟩
    unfold pickB
    rw [if_neg (by omega), if_neg (by omega)]
    omega
/-- of a few figures -/
def Ti (p : Int × Int) : Prop := p.1.natAbs < 2 ^ 20 ∧ p.2.natAbs < 2 ^ 20
theorem Ti.sz {p : Int × Int} (h : Ti p) : Sz p := ⟨pw_le h.1 (by decide), pw_le h.2 (by decide)⟩
theorem bodyS {p q : Int × Int} (hp : 0 < p.2) (hq : 0 < q.2) (tp : Ti p) (tq : Ti q) {y : Int} (hy : y.natAbs < 2 ^ 21) (x2 x4 x5 : Option D) (st : Sto) :
    b_l_simplest_0b_0 [some (rat p), some (rat q), x2, some (.int y), x4, x5] st = .nx [some (rat p), some (rat q), x2, some (.int y), some (.int (fst p y)), some (.int (lst q y))] st := by
  have g1 := mgd tp.1 hy (by decide)
  have g2 : (-q.1).natAbs.log2 + y.natAbs.log2 < 134000000 := by rw [Int.natAbs_neg]; exact mgd tq.1 hy (by decide)
  have l1 := lg (n := p.2.natAbs) 20 (pw_le tp.2 (by decide))
  have l2 := lg (n := q.2.natAbs) 20 (pw_le tq.2 (by decide))
  exact par2_ok (two_ok (add_ok (div_ok (mul_ok (at0 rfl) (var_ok rfl) g1) (at1 rfl) hp (by omega)) rfl) (sub_ok (neg_ok (div_ok (mul_ok (neg_ok (at0 rfl)) (var_ok rfl) g2) (at1 rfl) hq (by omega))) rfl))
theorem bodyS_no {p q : Int × Int} (hp : 0 < p.2) (hq : 0 < q.2) (tp : Ti p) (tq : Ti q) {y : Int} (hy : y.natAbs < 2 ^ 21) (x2 x4 x5 : Option D) (st : Sto) (h : ¬ fst p y ≤ lst q y) :
    b_l_simplest_0b [some (rat p), some (rat q), x2, some (.int y), x4, x5] st = .nx [some (rat p), some (rat q), x2, some (.int y), some (.int (fst p y)), some (.int (lst q y))] st := by
  have e := bodyS hp hq tp tq hy x2 x4 x5 st
  exact seq_to e (if_no (tval_ok (by
    have := le_ok (a := eVar 4) (b := eVar 5) (γ := [some (rat p), some (rat q), x2, some (.int y), some (.int (fst p y)), some (.int (lst q y))]) (st := st) (var_ok rfl) (var_ok rfl)
    rw [decide_eq_false h] at this
    exact this)))
theorem bodyS_yes {p q : Int × Int} (hp : 0 < p.2) (hq : 0 < q.2) (tp : Ti p) (tq : Ti q) {y : Int} (hy : y.natAbs < 2 ^ 21) (x2 x4 x5 : Option D) (st : Sto) (h : fst p y ≤ lst q y) :
    b_l_simplest_0b [some (rat p), some (rat q), x2, some (.int y), x4, x5] st = .rt (rat (pickB (fst p y) (lst q y), y)) st := by
  have e := bodyS hp hq tp tq hy x2 x4 x5 st
  refine seq_to e (if_t (tval_ok (by
    have := le_ok (a := eVar 4) (b := eVar 5) (γ := [some (rat p), some (rat q), x2, some (.int y), some (.int (fst p y)), some (.int (lst q y))]) (st := st) (var_ok rfl) (var_ok rfl)
    rw [decide_eq_true h] at this
    exact this)) (ret_ok (tup_ok (two_ok ?_ (var_ok rfl)) (by simp))))
  unfold pickB
  generalize fst p y = f
  generalize lst q y = l
  have o1 : opLe st (.int f) (.int 0) = some (.bl (decide (f ≤ 0))) := rfl
  have o2 : opLe st (.int 0) (.int l) = some (.bl (decide (0 ≤ l))) := rfl
  have o3 : opGt st (.int f) (.int 0) = some (.bl (decide (0 < f))) := rfl
  by_cases c1 : f ≤ 0
  · rw [decide_eq_true c1] at o1
    rw [decide_eq_false (show ¬ 0 < f by omega)] at o3
    by_cases c2 : 0 ≤ l
    · rw [decide_eq_true c2] at o2
      rw [if_pos ⟨c1, c2⟩]
      exact eif_t (tbl_ok (chain_t (var_ok rfl) rfl o1 (var_ok rfl) o2)) rfl
    · rw [decide_eq_false c2] at o2
      rw [if_neg (fun z => c2 z.2), if_neg (by omega)]
      exact eif_f (tbl_ok (chain_t (var_ok rfl) rfl o1 (var_ok rfl) o2)) (eif_f (tval_ok (e2_ok (var_ok rfl) rfl o3)) (var_ok rfl))
  · rw [decide_eq_false c1] at o1
    rw [decide_eq_true (show 0 < f by omega)] at o3
    rw [if_neg (fun z => c1 z.1), if_pos (by omega)]
    exact eif_f (tbl_ok (chain_f (var_ok rfl) rfl o1)) (eif_t (tval_ok (e2_ok (var_ok rfl) rfl o3)) (var_ok rfl))
theorem find_for {p q s : Int × Int} (hp : 0 < p.2) (hq : 0 < q.2) (tp : Ti p) (tq : Ti q) (hS : SPEC p q s) (x2 : Option D) (st : Sto) : ∀ (n : Nat) (lo : Int) (x3 x4 x5 : Option D), 0 < lo → lo ≤ s.2 → s.2 < lo + n → lo + n < 2 ^ 21 →
    forL (.nm 3) b_l_simplest_0b (rangeD lo n) [some (rat p), some (rat q), x2, x3, x4, x5] st = .rt (rat s) st := by
  obtain ⟨s0, s1, s2⟩ := hS.some hp hq
  intro n
  induction n with
  | zero => intro lo x3 x4 x5 h1 h2 h3 h4; omega
  | succ n ih =>
    intro lo x3 x4 x5 h1 h2 h3 h4
    rw [rangeD_succ]
    have e21 : (2 : Nat) ^ 21 = 2097152 := by decide
    have e21' : (2 : Int) ^ 21 = 2097152 := by decide
    by_cases c : lo = s.2
    · have z := bodyS_yes hp hq tp tq (y := lo) (by rw [e21]; omega) x2 x4 x5 st (by rw [c]; exact s1)
      rw [c, s2] at z
      rw [c]
      exact forL_rt rfl z
    · have z := bodyS_no hp hq tp tq (y := lo) (by rw [e21]; omega) x2 x4 x5 st (hS.none hp hq h1 (by omega))
      exact forL_nx rfl z (ih (lo + 1) _ _ _ (by omega) (by omega) (by omega) (by omega))
theorem l_simplest_ok {p q s : Int × Int} (hp : 0 < p.2) (hq : 0 < q.2) (tp : Ti p) (tq : Ti q) (hS : SPEC p q s) (hle : s.2 ≤ p.2 + q.2) (hm : p.2 + q.2 < 1000000 - 1) (st : Sto) :
    f_l_simplest [rat p, rat q, .int (p.2 + q.2)] st = .ok (rat s) st := by
  obtain ⟨s0, s1, s2⟩ := hS.some hp hq
  refine body_rt ?_
  rw [b_l_simplest_eq]
  refine seq_rt (for_ok (rng2_to rfl (add_ok (var_ok rfl) rfl) (by decide) (by omega)) ?_)
  have e21' : (2 : Int) ^ 21 = 2097152 := by decide
  exact find_for hp hq tp tq hS _ st _ 1 _ _ _ (by decide) (by omega) (by omega) (by omega)
theorem spec_le {p q s : Int × Int} (hp : 0 < p.2) (hq : 0 < q.2) (h : p.1 * q.2 < q.1 * p.2) (hS : SPEC p q s) : s.2 ≤ p.2 + q.2 := by
  rcases hS with ⟨a1, a2, rfl⟩ | ⟨a1, a2⟩ | ⟨a1, a2, a3⟩
  · show (1 : Int) ≤ _
    omega
  · exact (smp_le hp (by omega) h a2).2
  · have := (smp_le hq (by omega) (by rw [Int.neg_mul, Int.neg_mul]; omega) a3).2
    omega
end K01
end
section
set_option Elab.async false
set_option linter.all false
set_option maxRecDepth 100000
set_option maxHeartbeats 1000000
open PySem PySem.Spec PyProof.Rows L2 LamX FL
namespace K01
open TL
def zs (z : Int) : Str := Str.ofString (toString z)
def zl (z : Int) : List Nat := if z < 0 then 45 :: numL z.natAbs else numL z.natAbs
theorem tl_zs (z : Int) : tl (zs z) = zl z := by
  unfold zs zl
  by_cases h : z < 0
  · rw [if_pos h, PyProof.Rows.toString_neg h, tl_ofString, String.toList_append, List.map_append]
    have e : (0 - z) = ((z.natAbs : Nat) : Int) := by omega
    rw [e]
    have := tl_num z.natAbs
    rw [tl_ofString] at this
    rw [this]
    rfl
  · rw [if_neg h]
    have e : z = ((z.natAbs : Nat) : Int) := by omega
    conv => lhs; rw [e]
    exact tl_num z.natAbs
theorem opStr_zs (st : Sto) (z : Int) (h : z.natAbs < 10 ^ 4300) : opStrW st [.int z] = some (.str (zs z)) := by
  show (if z.natAbs < 10 ^ 4300 then some (D.str (toString z)) else none) = _
  rw [if_pos h]
  rfl
theorem zl_len {z : Int} {k : Nat} (hk : 0 < k) (h : z.natAbs < 10 ^ k) : (zl z).length ≤ k + 1 := by
  have := numL_len hk h
  unfold zl
  split
  · simp; omega
  · omega
theorem numL_head {n : Nat} (h : 0 < n) : ∃ c r, numL n = c :: r ∧ c ≠ 48 := by
  induction n using Nat.strongRecOn with
  | _ n ih =>
    by_cases h9 : n < 10
    · exact ⟨48 + n, [], numL_lt h9, by omega⟩
    · obtain ⟨c, r, e, hc⟩ := ih (n / 10) (by omega) (by omega)
      exact ⟨c, r ++ [48 + n % 10], by rw [numL_step (by omega), e]; rfl, hc⟩
theorem opIn_fig (st : Sto) (c : Nat) (h : 48 ≤ c ∧ c ≤ 57) : opIn st (.str ⟨#[c]⟩) k_FIGURES = some (.bl true) := by
  have e : opIn st (.str ⟨#[c]⟩) k_FIGURES = some (.bl (decide (c ∈ (Str.ofString "0123456789").cps.toList))) := rfl
  have e2 : (Str.ofString "0123456789").cps.toList = [48, 49, 50, 51, 52, 53, 54, 55, 56, 57] := by decide +kernel
  rw [e, e2]
  have : c ∈ [48, 49, 50, 51, 52, 53, 54, 55, 56, 57] := by simp; omega
  simp only [this, decide_true]
theorem figs_comp (x y : Option D) (st : Sto) : ∀ l : List Nat, NumText.AllDigits l → compL (.nm 2) tTrue (e2 opIn (eVar 2) (eC k_FIGURES)) [x, y, none] (l.map fun c => D.str ⟨#[c]⟩) st = .ok (l.map fun _ => D.bl true) st
  | [], _ => rfl
  | c :: l, h => by
    have h1 := h c List.mem_cons_self
    have ih := figs_comp x y st l (fun d hd => h d (List.mem_cons_of_mem _ hd))
    have := opIn_fig st c h1
    simp only [List.map_cons]
    simp [this, ih]
theorem all_true : ∀ l : List Nat, boolsOf (l.map fun _ => D.bl true) = some (l.map fun _ => true)
  | [] => rfl
  | c :: l => by simp [boolsOf, all_true l]
theorem strLen (w : Str) : w.length = (tl w).length := len_tl w
theorem shp_ok {w : Str} (h : ∀ c ∈ tl w, c < 1114112) (k : Nat) : D.shk k (.str w) = true := by
  rw [shk_str]
  show PyData.strOk w = true
  unfold PyData.strOk
  rw [← Array.all_toList, List.all_eq_true]
  intro c hc
  exact decide_eq_true (h c hc)
theorem tl_take1 (w : Str) : tl (cutS w none (some 1)) = (tl w).take 1 := by
  show (List.take _ (List.drop _ _)) = _
  have e : HT.sIx w.length w.length (some 1) = min 1 w.length := HT.sIx_nat _ _ 1
  have e0 : HT.sIx w.length 0 none = 0 := rfl
  rw [e, e0, List.drop_zero, Nat.sub_zero, len_tl]
  by_cases h : 1 ≤ (tl w).length
  · rw [Nat.min_eq_left h]
  · rw [Nat.min_eq_right (by omega), List.take_of_length_le (Nat.le_refl _), List.take_of_length_le (show (tl w).length ≤ 1 by omega)]
theorem tl_drop1 (w : Str) : tl (cutS w (some 1) none) = (tl w).drop 1 := by
  show (List.take _ (List.drop _ _)) = _
  have e : HT.sIx w.length 0 (some 1) = min 1 w.length := HT.sIx_nat _ _ 1
  have e0 : HT.sIx w.length w.length none = w.length := rfl
  rw [e, e0, len_tl]
  by_cases h : 1 ≤ (tl w).length
  · rw [Nat.min_eq_left h, List.take_of_length_le (by simp)]
  · have : tl w = [] := List.length_eq_zero_iff.mp (by omega)
    rw [this]
    rfl
theorem tl_minus : tl ("-" : Str) = [45] := by rw [tl_ofString]; rfl
theorem tl_null : tl ("0" : Str) = [48] := by rw [tl_ofString]; rfl
theorem tl_slash : tl ("/" : Str) = [47] := by rw [tl_ofString]; rfl
theorem tl_one (c : Nat) : tl (⟨#[c]⟩ : Str) = [c] := rfl
theorem beq_tl (v w : Str) : (v == w) = decide (tl v = tl w) := by
  by_cases h : v = w
  · subst h; simp
  · have : tl v ≠ tl w := fun e => h (ext_tl e)
    simp [h, this]
theorem zl_asc (z : Int) : ∀ c ∈ zl z, c = 45 ∨ (48 ≤ c ∧ c ≤ 57) := by
  intro c hc
  unfold zl at hc
  split at hc
  · rcases List.mem_cons.mp hc with e | e
    · exact .inl e
    · exact .inr (numL_digits _ c e)
  · exact .inr (numL_digits _ c hc)
theorem intText_zs (z : Int) (h : z.natAbs < 10 ^ 4000) : intText? (zs z) = some z := by
  have hl := zl_len (by decide) h
  have hl2 : (zs z).length ≤ 4300 := by rw [strLen, tl_zs]; omega
  by_cases hn : z < 0
  · have e : (zs z).cps.toList = 45 :: numL z.natAbs := by
      have := tl_zs z
      unfold zl at this
      rwa [if_pos hn] at this
    rw [intText_neg e (numL_digits _) (numL_ne _) hl2, numL_val]
    congr 1
    omega
  · have e : (zs z).cps.toList = numL z.natAbs := by
      have := tl_zs z
      unfold zl at this
      rwa [if_neg hn] at this
    rw [intText_digits (by rw [e]; exact numL_digits _) (by rw [e]; exact numL_ne _) hl2, e, numL_val]
    congr 1
    omega
def rwT : SF := sSeq (sIf (tOrF (tNotF (tBl (eChain opLe opLe (eC (.int 1)) (eBuilt (opLen) (aCons (eVar 1) (aNil))) (eC k_MOST_FIGURES)))) (tNotF (tVal (eBuilt (opAll) (aCons (eComp [2] (.nm 2) (FL.iAny (eVar 1)) (tTrue) (e2 opIn (eVar 2) (eC k_FIGURES))) (aNil)))))) (sRet (eC .non)) (sNil))
  (sSeq (sIf (tAndF (tVal (e2 opEq (e2 opIx (eVar 1) (eC (.int 0))) (eC (.str "0")))) (tVal (e2 opNe (eVar 0) (eC (.str "0"))))) (sRet (eC .non)) (sNil))
  (sRet (eBuilt (opIntS) (aCons (eVar 0) (aNil)))))
theorem rwT_ok (z : Int) (h : z.natAbs < 10 ^ 2000) (F : Str) (hF : tl F = numL z.natAbs) (st : Sto) : rwT [some (.str (zs z)), some (.str F), none] st = .rt (.int z) st := by
  have hlF : F.length ≤ 2000 := by rw [strLen, hF]; exact numL_len (by decide) h
  have hl1 : 1 ≤ F.length := by
    rw [strLen, hF]
    exact List.length_pos_iff.mpr (numL_ne _)
  have hlz : (zs z).length ≤ 2001 := by rw [strLen, tl_zs]; exact zl_len (by decide) h
  have hi := intText_zs z (Nat.lt_of_lt_of_le h (Nat.pow_le_pow_right (by decide) (by decide)))
  have hc : compL (.nm 2) tTrue (e2 opIn (eVar 2) (eC k_FIGURES)) [some (.str (zs z)), some (.str F), none] (F.cps.toList.map fun c => D.str ⟨#[c]⟩) st = .ok (F.cps.toList.map fun _ => D.bl true) st := figs_comp _ _ st _ (by show NumText.AllDigits (tl F); rw [hF]; exact numL_digits _)
  have hb := all_true F.cps.toList
  have hk : k_MOST_FIGURES = .int 2000 := rfl
  obtain ⟨c, r, hcr⟩ : ∃ c r, numL z.natAbs = c :: r := by
    cases e : numL z.natAbs with
    | nil => exact absurd e (numL_ne _)
    | cons c r => exact ⟨c, r, rfl⟩
  have hat : atI F.cps.toList 0 = some c := by
    show atI (tl F) 0 = _
    rw [hF, hcr]
    exact atI_0 _ _
  have s1 : D.shk 64 (.str (⟨#[c]⟩ : Str)) = true := shp_ok (by
    intro d hd
    have : d = c := by simpa using hd
    have := numL_digits z.natAbs c (by rw [hcr]; exact List.mem_cons_self)
    omega) 64
  have s2 : D.shk 64 (.str ("0" : Str)) = true := shp_ok (by rw [tl_null]; simp) 64
  have s3 : D.shk 64 (.str (zs z)) = true := shp_ok (by
    rw [tl_zs]
    intro d hd
    rcases zl_asc z d hd with e | e <;> omega) 64
  have q : c = 48 → zl z = [48] := fun e => by
    have hz : z.natAbs = 0 := by
      apply Decidable.byContradiction
      intro hn
      obtain ⟨c', r', e1, e2⟩ := numL_head (n := z.natAbs) (by omega)
      rw [hcr] at e1
      cases e1
      exact e2 e
    have : z = 0 := by omega
    subst this
    unfold zl
    rw [if_neg (by omega)]
    exact numL_lt (by decide)
  have i1 : (1 : Int) ≤ (F.length : Int) := by omega
  have i2 : (F.length : Int) ≤ 2000 := by omega
  have i3 : F.cps.size < 16777216 := by
    have : F.length = F.cps.size := rfl
    omega
  unfold rwT
  by_cases hc0 : c = 48
  · have q2 := q hc0
    subst hc0
    simp [hk, i1, i2, i3, hc, hb, opAll, hat, D.shp_eq, s1, s2, s3, beq_tl, tl_null, tl_one, tl_zs, q2, hi, show F.length ≤ 16777216 by omega, show (zs z).length ≤ 16777216 by omega]
  · simp [hk, i1, i2, i3, hc, hb, opAll, hat, D.shp_eq, s1, s2, s3, beq_tl, tl_null, tl_one, tl_zs, hc0, hi, show F.length ≤ 16777216 by omega, show (zs z).length ≤ 16777216 by omega]
end K01
end
section
set_option Elab.async false
set_option linter.all false
set_option maxRecDepth 100000
set_option maxHeartbeats 1000000
open PySem PySem.Spec PyProof.Rows L2 LamX FL
namespace K01
open TL
theorem zs_len {z : Int} (h : z.natAbs < 10 ^ 2000) : (zs z).length ≤ 2001 := by rw [strLen, tl_zs]; exact zl_len (by decide) h
theorem read_whole_ok (z : Int) (h : z.natAbs < 10 ^ 2000) (st : Sto) : f_read_whole [.str (zs z)] st = .ok (.int z) st := by
  have hlz := zs_len h
  have c1 : ∀ c ∈ tl (cutS (zs z) none (some 1)), c < 1114112 := by
    rw [tl_take1, tl_zs]
    intro c hc
    rcases zl_asc z c (List.mem_of_mem_take hc) with e | e <;> omega
  have s1 := shp_ok c1 64
  have s2 : D.shk 64 (.str ("-" : Str)) = true := shp_ok (by rw [tl_minus]; simp) 64
  have hsl : ∀ lo hi, opSl st (.str (zs z)) lo hi = some (.str (cutS (zs z) lo hi)) := fun lo hi => by
    show (if (zs z).length ≤ 16777216 then _ else _) = _
    rw [if_pos (by omega)]
  have key : ∃ F : Str, tl F = numL z.natAbs ∧ sAsg (.nm 1) (eIf (tVal (e2 opEq (eSl (eVar 0) pNone (pSome (eC (.int 1)))) (eC (.str "-")))) (eSl (eVar 0) (pSome (eC (.int 1))) pNone) (eVar 0)) [some (.str (zs z)), none, none] st = .nx [some (.str (zs z)), some (.str F), none] st := by
    by_cases hn : z < 0
    · refine ⟨cutS (zs z) (some 1) none, ?_, ?_⟩
      · rw [tl_drop1, tl_zs]
        unfold zl
        rw [if_pos hn]
        rfl
      · have q : tl (cutS (zs z) none (some 1)) = [45] := by
          rw [tl_take1, tl_zs]
          unfold zl
          rw [if_pos hn]
          rfl
        simp [hsl, D.shp_eq, s1, s2, beq_tl, tl_minus, q]
    · refine ⟨zs z, ?_, ?_⟩
      · rw [tl_zs]
        unfold zl
        rw [if_neg hn]
      · have q : ¬ tl (cutS (zs z) none (some 1)) = [45] := by
          rw [tl_take1, tl_zs]
          unfold zl
          rw [if_neg hn]
          intro e
          have : (45 : Nat) ∈ (numL z.natAbs).take 1 := by rw [e]; exact List.mem_cons_self
          have := numL_digits z.natAbs 45 (List.mem_of_mem_take this)
          omega
        simp [hsl, D.shp_eq, s1, s2, beq_tl, tl_minus, q]
  obtain ⟨F, hF, h1⟩ := key
  have h2 := rwT_ok z h F hF st
  show finish (sSeq (sAsg (.nm 1) (eIf (tVal (e2 opEq (eSl (eVar 0) pNone (pSome (eC (.int 1)))) (eC (.str "-")))) (eSl (eVar 0) (pSome (eC (.int 1))) pNone) (eVar 0))) rwT (startG 3 [.str (zs z)]) st) = _
  rw [seq_nx (γ := startG 3 [.str (zs z)]) (γ1 := [some (.str (zs z)), some (.str F), none]) (st1 := st) h1, h2]
  rfl
/-! ### 1 and two thousand noughts; two thousand nines -/
theorem numL_ten : ∀ n : Nat, numL (10 ^ n) = 49 :: List.replicate n 48
  | 0 => numL_lt (by decide)
  | n + 1 => by
    have e1 : 10 ^ (n + 1) / 10 = 10 ^ n := by rw [Nat.pow_succ, Nat.mul_div_cancel _ (by decide)]
    have e2 : 10 ^ (n + 1) % 10 = 0 := by rw [Nat.pow_succ]; exact Nat.mul_mod_left _ _
    have e3 : 1 ≤ 10 ^ n := Nat.one_le_pow _ _ (by decide)
    rw [numL_step (by rw [Nat.pow_succ]; omega), e1, e2, numL_ten n, List.replicate_succ']
    rfl
theorem numL_nine : ∀ n : Nat, numL (10 ^ (n + 1) - 1) = List.replicate (n + 1) 57
  | 0 => numL_lt (by decide)
  | n + 1 => by
    have e3 : 1 ≤ 10 ^ (n + 1) := Nat.one_le_pow _ _ (by decide)
    have e1 : (10 ^ (n + 1 + 1) - 1) / 10 = 10 ^ (n + 1) - 1 := by rw [Nat.pow_succ 10 (n + 1)]; omega
    have e2 : (10 ^ (n + 1 + 1) - 1) % 10 = 9 := by rw [Nat.pow_succ 10 (n + 1)]; omega
    rw [numL_step (by rw [Nat.pow_succ 10 (n + 1)]; omega), e1, e2, numL_nine n, List.replicate_succ' (n := n + 1)]
theorem flat_one (c : Nat) : ∀ n : Nat, (List.replicate n [c]).flatten = List.replicate n c
  | 0 => rfl
  | n + 1 => by rw [List.replicate_succ, List.flatten_cons, flat_one c n]; rfl
theorem tl_rep {z : Str} {c : Nat} (h : tl z = [c]) (n : Nat) : tl (repS z n) = List.replicate n c := by
  show (List.replicate n z.cps.toList).flatten = _
  have h' : z.cps.toList = [c] := h
  rw [h', flat_one]
theorem tl_d1 : tl ("1" : Str) = [49] := by rw [tl_ofString]; rfl
theorem tl_d9 : tl ("9" : Str) = [57] := by rw [tl_ofString]; rfl
theorem int_of_numL {x : Str} {n : Nat} (h : tl x = numL n) (hl : (numL n).length ≤ 4300) : intText? x = some (n : Int) := by
  have h' : x.cps.toList = numL n := h
  rw [intText_digits (by rw [h']; exact numL_digits _) (by rw [h']; exact numL_ne _) (by rw [strLen, h]; exact hl), h', numL_val]
theorem int_ten : intText? (("1" : Str) ++ repS "0" 2000) = some ((10 ^ 2000 : Nat) : Int) :=
  int_of_numL (by rw [tl_append, tl_d1, tl_rep tl_null, numL_ten]; rfl) (by rw [numL_ten]; simp)
theorem int_nine : intText? (repS "9" 2000) = some ((10 ^ 2000 - 1 : Nat) : Int) :=
  int_of_numL (by rw [tl_rep tl_d9]; exact (numL_nine 1999).symm) (by rw [show 10 ^ 2000 - 1 = 10 ^ (1999 + 1) - 1 from rfl, numL_nine 1999]; simp)
end K01
end
section
set_option Elab.async false
set_option linter.all false
set_option maxRecDepth 100000
set_option maxHeartbeats 1000000
open PySem PySem.Spec PyProof.Rows L2 LamX FL
namespace K01
open TL
theorem k_most : k_MOST_FIGURES = .int 2000 := rfl
theorem absI (i : Int) : (if i < 0 then -i else i) = (i.natAbs : Int) := by split <;> omega
/-- ten to the two thousand, not to be reckoned out -/
theorem big_ex : ∃ N : Nat, N = 10 ^ 2000 := ⟨_, rfl⟩
theorem is_short_N (N : Nat) (i : Int) (st : Sto) (R S0 S1 : Str) (h0 : S0 = "0") (h1 : S1 = "1") (hR : opMul st (.str S0) (.int 2000) = some (.str R)) (hl : S1.length + R.length ≤ 16777216) (hl2 : (S1 ++ R).length ≤ 16777216) (hi : intText? (S1 ++ R) = some (N : Int)) : f_is_short [.int i] st = .ok (.bl (decide (i.natAbs < N))) st := by
  unfold f_is_short b_is_short
  rw [← h0, ← h1, k_most]
  simp [hR, hl, hl2, hi, absI, -opMul_str]
theorem is_short_ok (i : Int) (st : Sto) : f_is_short [.int i] st = .ok (.bl (decide (i.natAbs < 10 ^ 2000))) st := by
  have l1 : (repS "0" 2000).length = 2000 := by rw [strLen, tl_rep tl_null, List.length_replicate]
  have l0 : ("0" : Str).length = 1 := by rw [strLen, tl_null]; rfl
  have l2 : ("1" : Str).length = 1 := by rw [strLen, tl_d1]; rfl
  refine is_short_N (10 ^ 2000) i st (repS "0" 2000) "0" "1" rfl rfl ?_ (by rw [l1, l2]; decide) (by rw [Str.length_append, l1, l2]; decide) int_ten
  rw [opMul_str, l0, if_pos ⟨by decide, by decide, by decide⟩]
  rfl
end K01
end
section
set_option Elab.async false
set_option linter.all false
set_option maxRecDepth 100000
set_option maxHeartbeats 1000000
open PySem PySem.Spec PyProof.Rows L2 LamX FL
namespace K01
open TL
/-- one and two thousand noughts, not to be reckoned out -/
noncomputable def bigN : Nat := Classical.choose big_ex
theorem bigN_eq : bigN = 10 ^ 2000 := Classical.choose_spec big_ex
theorem short_ok (i : Int) (st : Sto) : f_is_short [.int i] st = .ok (.bl (decide (i.natAbs < bigN))) st := by
  rw [bigN_eq]
  exact is_short_ok i st
theorem int_nineB : intText? (repS "9" 2000) = some ((bigN : Int) - 1) := by
  have e := int_nine
  rw [← bigN_eq] at e
  have : 1 ≤ bigN := by rw [bigN_eq]; exact Nat.one_le_pow _ _ (by decide)
  rw [e]
  congr 1
  omega
/-- the word of a ratio -/
def wd (p : Int × Int) : Str := zs p.1 ++ (if p.2 = 1 then ("" : Str) else ("/" : Str) ++ zs p.2)
def Tx (p : Int × Int) : Prop := p.1.natAbs < bigN ∧ p.2.natAbs < bigN
theorem zs_lenB {z : Int} (h : z.natAbs < bigN) : (zs z).length ≤ 2001 := zs_len (by rw [← bigN_eq]; exact h)
theorem strB {z : Int} (h : z.natAbs < bigN) (st : Sto) : opStrW st [.int z] = some (.str (zs z)) := by
  refine opStr_zs st z (Nat.lt_of_lt_of_le h ?_)
  rw [bigN_eq]
  exact Nat.pow_le_pow_right (by decide) (by decide)
theorem tl_empty : tl ("" : Str) = [] := by rw [tl_ofString]; rfl
theorem len_slash : ("/" : Str).length = 1 := by rw [strLen, tl_slash]; rfl
theorem len_empty : ("" : Str).length = 0 := by rw [strLen, tl_empty]; rfl
def rtb (F : FF) : SF := sSeq (sIf (tOrF (tNotF (tVal (eCall 1 F (aCons (e2 opIx (eVar 0) (eC (.int 0))) (aNil))))) (tNotF (tVal (eCall 1 F (aCons (e2 opIx (eVar 0) (eC (.int 1))) (aNil)))))) (sRaise "TooMany" 2 (aCons (eC (.str "figures")) (aCons (eC k_MOST_FIGURES) (aNil)))) (sNil))
  (sRet (eIf (tVal (e2 opEq (e2 opIx (eVar 0) (eC (.int 1))) (eC (.int 1)))) (eBuilt (opStrW) (aCons (e2 opIx (eVar 0) (eC (.int 0))) (aNil))) (e2 opAdd (e2 opAdd (eBuilt (opStrW) (aCons (e2 opIx (eVar 0) (eC (.int 0))) (aNil))) (eC (.str "/"))) (eBuilt (opStrW) (aCons (e2 opIx (eVar 0) (eC (.int 1))) (aNil))))))
theorem rtb_eq : b_ratio_text = rtb f_is_short := rfl
theorem rtb_bad1 (F : FF) (a b : Int) (st : Sto) (t1 : F [.int a] st = .ok (.bl false) st) : rtb F [some (.tup [.int a, .int b])] st = .ex "TooMany" [.str "figures", .int 2000] [some (.tup [.int a, .int b])] st := by
  unfold rtb
  simp [t1, k_most]
theorem rtb_bad2 (F : FF) (a b : Int) (st : Sto) (t1 : F [.int a] st = .ok (.bl true) st) (t2 : F [.int b] st = .ok (.bl false) st) : rtb F [some (.tup [.int a, .int b])] st = .ex "TooMany" [.str "figures", .int 2000] [some (.tup [.int a, .int b])] st := by
  unfold rtb
  simp [t1, t2, k_most]
theorem rtb_one (F : FF) (a : Int) (st : Sto) (x : Str) (s1 : opStrW st [.int a] = some (.str x)) (t1 : F [.int a] st = .ok (.bl true) st) (t2 : F [.int 1] st = .ok (.bl true) st) : rtb F [some (.tup [.int a, .int 1])] st = .rt (.str x) st := by
  unfold rtb
  simp [t1, t2, s1, -opStrW_int]
theorem rtb_two (F : FF) (a b : Int) (st : Sto) (x y : Str) (hb : ¬ b = 1) (s1 : opStrW st [.int a] = some (.str x)) (s2 : opStrW st [.int b] = some (.str y)) (l1 : x.length ≤ 2001) (l2 : y.length ≤ 2001) (t1 : F [.int a] st = .ok (.bl true) st) (t2 : F [.int b] st = .ok (.bl true) st) : rtb F [some (.tup [.int a, .int b])] st = .rt (.str (x ++ ("/" : Str) ++ y)) st := by
  have l5 : (x ++ ("/" : Str)).length = x.length + 1 := by rw [Str.length_append, len_slash]
  have g1 : x.length + 1 ≤ 16777216 := by omega
  have g2 : x.length + 1 + y.length ≤ 16777216 := by omega
  unfold rtb
  simp [t1, t2, s1, s2, hb, l5, len_slash, g1, g2, -opStrW_int]
theorem rtx_eq (p : Int × Int) (st : Sto) : f_ratio_text [rat p] st = finish (rtb f_is_short [some (.tup [.int p.1, .int p.2])] st) := rfl
theorem shT {i : Int} (h : i.natAbs < bigN) (st : Sto) : f_is_short [.int i] st = .ok (.bl true) st := by
  have t1 := short_ok i st
  rw [decide_eq_true h] at t1
  exact t1
theorem shF {i : Int} (h : ¬ i.natAbs < bigN) (st : Sto) : f_is_short [.int i] st = .ok (.bl false) st := by
  have t1 := short_ok i st
  rw [decide_eq_false h] at t1
  exact t1
theorem ratio_text_ok {p : Int × Int} (h : Tx p) (st : Sto) : f_ratio_text [rat p] st = .ok (.str (wd p)) st := by
  have e2 : zs p.1 ++ ("" : Str) = zs p.1 := ext_tl (by rw [tl_append, tl_empty, List.append_nil])
  have e3 : zs p.1 ++ ("/" : Str) ++ zs p.2 = zs p.1 ++ (("/" : Str) ++ zs p.2) := ext_tl (by rw [tl_append, tl_append, tl_append, tl_append, List.append_assoc])
  rw [rtx_eq]
  unfold wd
  by_cases e : p.2 = 1
  · have t2 := shT h.2 st
    rw [e] at t2
    rw [if_pos e, e2, e, rtb_one _ _ _ _ (strB h.1 st) (shT h.1 st) t2]
    rfl
  · rw [if_neg e, rtb_two _ _ _ _ _ _ e (strB h.1 st) (strB h.2 st) (zs_lenB h.1) (zs_lenB h.2) (shT h.1 st) (shT h.2 st), e3]
    rfl
theorem ratio_text_bad {p : Int × Int} (h : ¬ Tx p) (st : Sto) : f_ratio_text [rat p] st = .ex "TooMany" [.str "figures", .int 2000] st := by
  rw [rtx_eq]
  by_cases a : p.1.natAbs < bigN
  · rw [rtb_bad2 _ _ _ _ (shT a st) (shF (fun b => h ⟨a, b⟩) st)]
    rfl
  · rw [rtb_bad1 _ _ _ _ (shF a st)]
    rfl
end K01
end
section
set_option Elab.async false
set_option linter.all false
set_option maxRecDepth 100000
set_option maxHeartbeats 1000000
open PySem PySem.Spec PyProof.Rows L2 LamX FL
namespace K01
open TL
/-! ### the word is cut -/
theorem kind_ok (x : Str) : ¬ Builtin.Str.strKind x < Builtin.Str.strKind ("/" : Str) := by
  have e : Builtin.Str.strKind ("/" : Str) = 1 := by decide +kernel
  rw [e]
  unfold Builtin.Str.strKind
  split
  · omega
  · split <;> omega
theorem zl_free (z : Int) : 47 ∉ zl z := fun h => by rcases zl_asc z 47 h with e | e <;> omega
theorem split_one (z : Int) : Txt.split (zs z) "/" = [zs z] := by
  refine map_tl_inj ?_
  rw [split_spl _ _ (by rw [tl_slash]; simp) (kind_ok _), tl_slash, tl_zs, spl_last1 (zl_free z), List.nil_append]
  simp [tl_zs]
theorem split_two (a b : Int) : Txt.split (zs a ++ ("/" ++ zs b)) "/" = [zs a, zs b] := by
  refine map_tl_inj ?_
  rw [split_spl _ _ (by rw [tl_slash]; simp) (kind_ok _), tl_append, tl_append, tl_slash, tl_zs, tl_zs]
  have e := spl_part1 (S := []) (rest := zl b) (acc := []) (zl_free a)
  rw [e, spl_last1 (zl_free b)]
  simp [tl_zs]
theorem split_wd (p : Int × Int) : Txt.split (wd p) "/" = if p.2 = 1 then [zs p.1] else [zs p.1, zs p.2] := by
  unfold wd
  split
  · rw [show zs p.1 ++ ("" : Str) = zs p.1 from ext_tl (by rw [tl_append, tl_empty, List.append_nil])]
    exact split_one _
  · exact split_two _ _
end K01
end
section
set_option Elab.async false
set_option linter.all false
set_option maxRecDepth 100000
set_option maxHeartbeats 1000000
open PySem PySem.Spec PyProof.Rows L2 LamX FL
namespace K01
open TL
theorem rwB {z : Int} (h : z.natAbs < bigN) (st : Sto) : f_read_whole [.str (zs z)] st = .ok (.int z) st := read_whole_ok z (by rw [← bigN_eq]; exact h) st
theorem wd_len {p : Int × Int} (h : Tx p) : (wd p).length ≤ 4003 := by
  have l1 := zs_lenB h.1
  have l2 := zs_lenB h.2
  unfold wd
  rw [Str.length_append]
  split
  · rw [len_empty]; omega
  · rw [Str.length_append, len_slash]; omega
theorem opSplit_wd {p : Int × Int} (h : Tx p) (st : Sto) : opSplit st (.str (wd p)) (.str "/") = some (.lst ((if p.2 = 1 then [zs p.1] else [zs p.1, zs p.2]).map .str)) := by
  have hl := wd_len h
  rw [← split_wd]
  show (if _ then _ else none) = _
  rw [if_pos ⟨by rw [len_slash]; rfl, by omega⟩]
theorem read_ratio_ok {p : Int × Int} (h : Tx p) (hc : Can p) (st : Sto) : f_read_ratio [.str (wd p)] st = .ok (rat p) st := by
  have s1 := opSplit_wd h st
  have r1 := rwB h.1 st
  have r2 := rwB h.2 st
  obtain ⟨c1, c2⟩ := hc
  have c2' : Nat.gcd p.1.natAbs p.2.natAbs = 1 := c2
  clear h
  unfold f_read_ratio b_read_ratio rat
  by_cases e : p.2 = 1
  · rw [if_pos e] at s1
    simp [s1, r1, e, ss]
  · rw [if_neg e] at s1
    have e2 : ¬ p.2 < 2 := by omega
    simp [s1, r1, r2, e, e2, ss, c2']
end K01
end
section
set_option Elab.async false
set_option linter.all false
set_option maxRecDepth 100000
set_option maxHeartbeats 1000000
open PySem PySem.Spec PyProof.Rows L2 LamX FL
namespace K01
open TL NumText
/-! ### what is a word, by both readings -/
theorem canon : ∀ (n : Nat) (l : List Nat), l.length = n → AllDigits l → (∃ c r, l = c :: r ∧ c ≠ 48) → numL (digitsVal l) = l := by
  intro n
  induction n with
  | zero => intro l hl _ ⟨c, r, e, _⟩; rw [e] at hl; cases hl
  | succ n ih =>
    intro l hl hd hh
    obtain ⟨c, r, e, hc⟩ := hh
    have hne : l ≠ [] := by rw [e]; simp
    obtain ⟨l', d, e2⟩ : ∃ l' d, l = l' ++ [d] := ⟨l.dropLast, l.getLast hne, (List.dropLast_concat_getLast hne).symm⟩
    have hdd := hd d (by rw [e2]; simp)
    rw [e2, digitsVal_snoc]
    by_cases z : l' = []
    · subst z
      rw [show digitsVal ([] : List Nat) = 0 from rfl]
      rw [numL_lt (by omega)]
      simp
      omega
    · obtain ⟨c', r', e3⟩ : ∃ c' r', l' = c' :: r' := by
        cases l' with
        | nil => exact absurd rfl z
        | cons c' r' => exact ⟨c', r', rfl⟩
      have ec : c' = c := by
        rw [e2, e3] at e
        simp at e
        exact e.1
      have hd' : AllDigits l' := fun x hx => hd x (by rw [e2]; exact List.mem_append_left _ hx)
      have i := ih l' (by rw [e2] at hl; simp at hl; omega) hd' ⟨c', r', e3, by rw [ec]; exact hc⟩
      have hc' := hd' c' (by rw [e3]; exact List.mem_cons_self)
      have pos : 0 < digitsVal l' := by rw [e3]; exact digitsVal_pos (by omega)
      rw [numL_step (by omega)]
      rw [show (digitsVal l' * 10 + (d - 48)) / 10 = digitsVal l' by omega, show (digitsVal l' * 10 + (d - 48)) % 10 = d - 48 by omega, i]
      congr 1
      simp
      omega
theorem dval_lt : ∀ (n : Nat) (l : List Nat), l.length = n → AllDigits l → digitsVal l < 10 ^ n := by
  intro n
  induction n with
  | zero =>
    intro l hl _
    have : l = [] := List.length_eq_zero_iff.mp hl
    subst this
    show 0 < 1
    decide
  | succ n ih =>
    intro l hl hd
    have hne : l ≠ [] := by intro e; rw [e] at hl; cases hl
    obtain ⟨l', d, e2⟩ : ∃ l' d, l = l' ++ [d] := ⟨l.dropLast, l.getLast hne, (List.dropLast_concat_getLast hne).symm⟩
    have hdd := hd d (by rw [e2]; simp)
    have i := ih l' (by rw [e2] at hl; simp at hl; omega) (fun x hx => hd x (by rw [e2]; exact List.mem_append_left _ hx))
    rw [e2, digitsVal_snoc, Nat.pow_succ]
    omega
/-- the figures -/
def fg (l : List Nat) : List Nat := if l.take 1 = [45] then l.drop 1 else l
def dg (c : Nat) : Bool := decide (48 ≤ c ∧ c ≤ 57)
theorem opIn_dg (st : Sto) (c : Nat) : opIn st (.str ⟨#[c]⟩) k_FIGURES = some (.bl (dg c)) := by
  have e : opIn st (.str ⟨#[c]⟩) k_FIGURES = some (.bl (decide (c ∈ (Str.ofString "0123456789").cps.toList))) := rfl
  have e2 : (Str.ofString "0123456789").cps.toList = [48, 49, 50, 51, 52, 53, 54, 55, 56, 57] := by decide +kernel
  rw [e, e2]
  have : decide (c ∈ [48, 49, 50, 51, 52, 53, 54, 55, 56, 57]) = dg c := by
    unfold dg
    rw [decide_eq_decide]
    simp
    omega
  rw [this]
theorem opNotIn_dg (st : Sto) (c : Nat) : opNotIn st (.str ⟨#[c]⟩) (.str "0123456789") = some (.bl (!dg c)) := by
  have e : opNotIn st (.str ⟨#[c]⟩) (.str "0123456789") = some (.bl (!decide (c ∈ (Str.ofString "0123456789").cps.toList))) := rfl
  have e2 : (Str.ofString "0123456789").cps.toList = [48, 49, 50, 51, 52, 53, 54, 55, 56, 57] := by decide +kernel
  rw [e, e2]
  have : decide (c ∈ [48, 49, 50, 51, 52, 53, 54, 55, 56, 57]) = dg c := by
    unfold dg
    rw [decide_eq_decide]
    simp
    omega
  rw [this]
theorem comp_all (x y : Option D) (st : Sto) : ∀ l : List Nat, compL (.nm 2) tTrue (e2 opIn (eVar 2) (eC k_FIGURES)) [x, y, none] (l.map fun c => D.str ⟨#[c]⟩) st = .ok (l.map fun c => D.bl (dg c)) st
  | [] => rfl
  | c :: l => by
    have ih := comp_all x y st l
    have := opIn_dg st c
    simp only [List.map_cons]
    simp [this, ih]
theorem bools_map (l : List Nat) : boolsOf (l.map fun c => D.bl (dg c)) = some (l.map dg) := by
  induction l with
  | nil => rfl
  | cons c l ih => simp [boolsOf, ih]
theorem comp_bad (x y : Option D) (st : Sto) : ∀ l : List Nat, compL (.nm 2) (tVal (e2 opNotIn (eVar 2) (eC (.str "0123456789")))) (eVar 2) [x, y, none] (l.map fun c => D.str ⟨#[c]⟩) st = .ok ((l.filter fun c => !dg c).map fun c => D.str ⟨#[c]⟩) st
  | [] => rfl
  | c :: l => by
    have ih := comp_bad x y st l
    have := opNotIn_dg st c
    simp only [List.map_cons]
    cases h : dg c
    · rw [h] at this
      simp [this, ih, h]
    · rw [h] at this
      simp [this, ih, h]
theorem cutW {x : Str} (h : x.length ≤ 16777216) (st : Sto) (lo hi : Option Int) : opSl st (.str x) lo hi = some (.str (cutS x lo hi)) := by
  show (if x.length ≤ 16777216 then _ else _) = _
  rw [if_pos h]
theorem _root_.FL.TOk.cut1 {x : Str} (h : TOk x) : TOk (cutS x none (some 1)) := by
  intro c hc
  rw [tl_take1] at hc
  exact h c (List.mem_of_mem_take hc)
theorem _root_.FL.TOk.cut2 {x : Str} (h : TOk x) : TOk (cutS x (some 1) none) := by
  intro c hc
  rw [tl_drop1] at hc
  exact h c (List.mem_of_mem_drop hc)
theorem eq_str {x y : Str} (hx : TOk x) (hy : TOk y) (st : Sto) : opEq st (.str x) (.str y) = some (.bl (decide (tl x = tl y))) := by
  rw [opEq_, hx.shp, hy.shp, eqv_str, beq_tl]
  rfl
theorem ne_str {x y : Str} (hx : TOk x) (hy : TOk y) (st : Sto) : opNe st (.str x) (.str y) = some (.bl (!decide (tl x = tl y))) := by
  rw [opNe_, hx.shp, hy.shp, eqv_str, beq_tl]
  rfl
theorem minus_tok : TOk ("-" : Str) := TOk.lit
theorem null_tok : TOk ("0" : Str) := TOk.lit
theorem empty_tok : TOk ("" : Str) := TOk.lit
theorem figs_ok {x : Str} (hx : TOk x) (hl : x.length ≤ 10000) (z : Option D) (st : Sto) :
    ∃ F : Str, tl F = fg (tl x) ∧ TOk F ∧ F.length ≤ 10000 ∧ b_read_whole_0 [some (.str x), none, z] st = .nx [some (.str x), some (.str F), z] st := by
  have s := cutW (x := x) (by omega) st
  have e := eq_str hx.cut1 minus_tok st
  rw [tl_take1, tl_minus] at e
  have lx : x.length = (tl x).length := strLen x
  unfold fg
  by_cases h : (tl x).take 1 = [45]
  · rw [decide_eq_true h] at e
    refine ⟨cutS x (some 1) none, by rw [if_pos h, tl_drop1], hx.cut2, ?_, ?_⟩
    · rw [strLen, tl_drop1, List.length_drop]
      omega
    · unfold b_read_whole_0
      simp [s, e, -opEq_]
  · rw [decide_eq_false h] at e
    refine ⟨x, by rw [if_neg h], hx, hl, ?_⟩
    unfold b_read_whole_0
    simp [s, e, -opEq_]
/-- the figures are right -/
def FOk (l : List Nat) : Prop := l ≠ [] ∧ l.length ≤ 2000 ∧ l.all dg = true
theorem rw1_ok {F : Str} (hF : TOk F) (hl : F.length ≤ 10000) (x : Option D) (st : Sto) :
    (FOk (tl F) → b_read_whole_1 [x, some (.str F), none] st = .nx [x, some (.str F), none] st) ∧ (¬ FOk (tl F) → b_read_whole_1 [x, some (.str F), none] st = .rt .non st) := by
  have lx : F.length = (tl F).length := strLen F
  have hk : k_MOST_FIGURES = .int 2000 := rfl
  have o0 : opLen st [.str F] = some (.int (tl F).length) := by rw [opLen_str, if_pos (by omega), lx]
  have c : eComp [2] (.nm 2) (iAny (eVar 1)) (tTrue) (e2 opIn (eVar 2) (eC k_FIGURES)) [x, some (.str F), none] st = .ok (.lst ((tl F).map fun c => D.bl (dg c))) st :=
    cmp_ok (ds := (tl F).map fun c => D.str ⟨#[c]⟩) (st1 := st) rfl (by rw [List.length_map]; omega) (comp_all _ _ _ _)
  have a : opAll st [.lst ((tl F).map fun c => D.bl (dg c))] = some (.bl ((tl F).all dg)) := by
    show (boolsOf _).map _ = _
    rw [bools_map]
    simp
  have o1 : opLe st (.int 1) (.int (tl F).length) = some (.bl (decide ((1 : Int) ≤ (tl F).length))) := rfl
  have o2 : opLe st (.int (tl F).length) k_MOST_FIGURES = some (.bl (decide (((tl F).length : Int) ≤ 2000))) := rfl
  have cc : eBuilt (opAll) (aCons (eComp [2] (.nm 2) (iAny (eVar 1)) (tTrue) (e2 opIn (eVar 2) (eC k_FIGURES))) aNil) [x, some (.str F), none] st = .ok (.bl ((tl F).all dg)) st := built_ok (one_ok c) a
  have ll : eBuilt (opLen) (aCons (eVar 1) aNil) [x, some (.str F), none] st = .ok (.int (tl F).length) st := built_ok (one_ok (var_ok rfl)) o0
  by_cases h1 : (1 : Int) ≤ (tl F).length
  · rw [decide_eq_true h1] at o1
    by_cases h2 : ((tl F).length : Int) ≤ 2000
    · rw [decide_eq_true h2] at o2
      have t := tnot_ok (tbl_ok (chain_t (fa := eC (.int 1)) (fc := eC k_MOST_FIGURES) rfl ll o1 rfl o2))
      cases h3 : (tl F).all dg
      · rw [h3] at cc
        exact ⟨fun z => absurd (h3.symm.trans z.2.2) (by decide), fun _ => if_t (tor_f t (tnot_ok (tval_ok cc))) (ret_ok rfl)⟩
      · rw [h3] at cc
        exact ⟨fun _ => if_no (tor_f t (tnot_ok (tval_ok cc))), fun z => absurd ⟨fun e => by rw [e] at h1; simp at h1, by omega, h3⟩ z⟩
    · rw [decide_eq_false h2] at o2
      have t := tnot_ok (tbl_ok (chain_t (fa := eC (.int 1)) (fc := eC k_MOST_FIGURES) rfl ll o1 rfl o2))
      exact ⟨fun z => absurd z.2.1 (by omega), fun _ => if_t (tor_t t) (ret_ok rfl)⟩
  · rw [decide_eq_false h1] at o1
    have t := tnot_ok (tbl_ok (chain_f (op' := opLe) (fc := eC k_MOST_FIGURES) (fa := eC (.int 1)) rfl ll o1))
    exact ⟨fun z => absurd (List.length_pos_iff.mpr z.1) (by omega), fun _ => if_t (tor_t t) (ret_ok rfl)⟩
theorem filt_nil (l : List Nat) : (l.filter fun c => !dg c) = [] ↔ l.all dg = true := by
  rw [List.filter_eq_nil_iff, List.all_eq_true]
  simp
theorem lw1_ok {F : Str} (hF : TOk F) (hl : F.length ≤ 10000) (x : Option D) (st : Sto) :
    (FOk (tl F) → b_l_whole_1 [x, some (.str F), none] st = .nx [x, some (.str F), none] st) ∧ (¬ FOk (tl F) → b_l_whole_1 [x, some (.str F), none] st = .rt .non st) := by
  have lx : F.length = (tl F).length := strLen F
  have o0 : opLen st [.str F] = some (.int (tl F).length) := by rw [opLen_str, if_pos (by omega), lx]
  have c : eComp [2] (.nm 2) (iAny (eVar 1)) (tVal (e2 opNotIn (eVar 2) (eC (.str "0123456789")))) (eVar 2) [x, some (.str F), none] st = .ok (.lst (((tl F).filter fun c => !dg c).map fun c => D.str ⟨#[c]⟩)) st :=
    cmp_ok (ds := (tl F).map fun c => D.str ⟨#[c]⟩) (st1 := st) rfl (by rw [List.length_map]; omega) (comp_bad _ _ _ _)
  have sh : (((tl F).filter fun c => !dg c).map fun c => D.str ⟨#[c]⟩).all (D.shk 63) = true := by
    rw [List.all_map, List.all_eq_true]
    intro c hc
    exact TOk.shk (w := ⟨#[c]⟩) (fun d hd => by
      have : d = c := by simpa using hd
      rw [this]
      exact hF c ((List.mem_filter.mp hc).1)) 63
  have n : opNe st (.lst (((tl F).filter fun c => !dg c).map fun c => D.str ⟨#[c]⟩)) (.lst []) = some (.bl (!decide (((tl F).filter fun c => !dg c) = []))) := by
    rw [opNe_, shp_lst, sh, eqv_lst]
    cases h : ((tl F).filter fun c => !dg c) with
    | nil => simp
    | cons a b => simp
  have e := eq_str hF empty_tok st
  rw [tl_empty] at e
  have ll : eBuilt (opLen) (aCons (eVar 1) aNil) [x, some (.str F), none] st = .ok (.int (tl F).length) st := built_ok (one_ok (var_ok rfl)) o0
  by_cases h1 : tl F = []
  · rw [decide_eq_true h1] at e
    exact ⟨fun z => absurd h1 z.1, fun _ => if_t (tor_t (tval_ok (e2_ok (var_ok rfl) rfl e))) (ret_ok rfl)⟩
  · rw [decide_eq_false h1] at e
    have t1 := tval_ok (e2_ok (γ := [x, some (.str F), none]) (fa := eVar 1) (fb := eC (.str "")) (var_ok rfl) rfl e)
    have g := gt_ok (b := eC (.int 2000)) ll rfl
    by_cases h2 : (2000 : Int) < (tl F).length
    · rw [decide_eq_true h2] at g
      exact ⟨fun z => absurd z.2.1 (by omega), fun _ => if_t (tor_f t1 (tor_t (tval_ok g))) (ret_ok rfl)⟩
    · rw [decide_eq_false h2] at g
      by_cases h3 : ((tl F).filter fun c => !dg c) = []
      · rw [decide_eq_true h3] at n
        exact ⟨fun _ => if_no (tor_f t1 (tor_f (tval_ok g) (tval_ok (e2_ok c (lst_ok nil_ok (by decide)) n)))), fun z => absurd ⟨h1, by omega, (filt_nil _).mp h3⟩ z⟩
      · rw [decide_eq_false h3] at n
        exact ⟨fun z => absurd ((filt_nil _).mpr z.2.2) h3, fun _ => if_t (tor_f t1 (tor_f (tval_ok g) (tval_ok (e2_ok c (lst_ok nil_ok (by decide)) n)))) (ret_ok rfl)⟩
end K01
end
section
set_option Elab.async false
set_option linter.all false
set_option maxRecDepth 100000
set_option maxHeartbeats 1000000
open PySem PySem.Spec PyProof.Rows L2 LamX FL
namespace K01
open TL NumText
theorem fok_digits {l : List Nat} (h : FOk l) : AllDigits l := fun c hc => by
  have := List.all_eq_true.mp h.2.2 c hc
  exact of_decide_eq_true this
theorem pow_big {n : Nat} (h : n ≤ 2000) : 10 ^ n ≤ bigN := by
  rw [bigN_eq]
  exact Nat.pow_le_pow_right (by decide) h
/-- the number of right figures -/
def nv (l : List Nat) : Int := if l.take 1 = [45] then -((digitsVal (fg l) : Nat) : Int) else ((digitsVal (fg l) : Nat) : Int)
theorem nv_lt {l : List Nat} (h : FOk (fg l)) : (nv l).natAbs < bigN := by
  have z := dval_lt _ (fg l) rfl (fok_digits h)
  have y := pow_big h.2.1
  unfold nv
  split <;> omega
theorem nv_int {x : Str} (h : FOk (fg (tl x))) (hl : x.length ≤ 4000) : intText? x = some (nv (tl x)) := by
  unfold nv
  by_cases c : (tl x).take 1 = [45]
  · rw [if_pos c]
    have e : (tl x) = 45 :: fg (tl x) := by
      unfold fg
      rw [if_pos c]
      cases q : tl x with
      | nil => rw [q] at c; cases c
      | cons a r =>
        rw [q] at c
        simp at c
        simp [c]
    exact intText_neg e (fok_digits h) h.1 (by omega)
  · rw [if_neg c]
    have e : fg (tl x) = tl x := by unfold fg; rw [if_neg c]
    rw [e] at h ⊢
    exact intText_digits (fok_digits h) h.1 (by omega)
theorem fg_zl (z : Int) : fg (zl z) = numL z.natAbs ∧ ((zl z).take 1 = [45] ↔ z < 0) := by
  unfold zl fg
  by_cases h : z < 0
  · rw [if_pos h]
    exact ⟨by rw [if_pos (by rfl)]; rfl, by simp [h]⟩
  · rw [if_neg h]
    have n : ¬ (numL z.natAbs).take 1 = [45] := fun e => by
      have : (45 : Nat) ∈ (numL z.natAbs).take 1 := by rw [e]; exact List.mem_cons_self
      have := numL_digits z.natAbs 45 (List.mem_of_mem_take this)
      omega
    exact ⟨by rw [if_neg n], by simp [h, n]⟩
/-- no nought ahead, or 0 alone: just the numbers' own words -/
theorem own_word {x : Str} (h : FOk (fg (tl x))) : (zl (nv (tl x)) = tl x) ↔ ¬ ((fg (tl x)).head? = some 48 ∧ tl x ≠ [48]) := by
  have hd := fok_digits h
  obtain ⟨c, r, ec⟩ : ∃ c r, fg (tl x) = c :: r := by
    cases q : fg (tl x) with
    | nil => exact absurd q h.1
    | cons c r => exact ⟨c, r, rfl⟩
  constructor
  · rintro e ⟨h1, h2⟩
    rw [ec] at h1
    simp at h1
    obtain ⟨f1, f2⟩ := fg_zl (nv (tl x))
    rw [e] at f1
    by_cases z : (nv (tl x)).natAbs = 0
    · have z' : nv (tl x) = 0 := by omega
      rw [z'] at e
      apply h2
      rw [← e]
      unfold zl
      rw [if_neg (by omega)]
      exact numL_lt (by decide)
    · obtain ⟨c', r', e1, e2⟩ := numL_head (n := (nv (tl x)).natAbs) (by omega)
      rw [f1, e1] at ec
      cases ec
      exact e2 h1
  · intro hn
    by_cases c1 : (tl x).take 1 = [45]
    · have e0 : (tl x) = 45 :: fg (tl x) := by
        unfold fg
        rw [if_pos c1]
        cases q : tl x with
        | nil => rw [q] at c1; cases c1
        | cons a r =>
          rw [q] at c1
          simp at c1
          simp [c1]
      have hc : c ≠ 48 := fun z => hn ⟨by rw [ec, z]; rfl, fun w => by rw [w] at c1; cases c1⟩
      have cn := canon _ _ rfl hd ⟨c, r, ec, hc⟩
      have pos : 0 < digitsVal (fg (tl x)) := by
        have := hd c (by rw [ec]; exact List.mem_cons_self)
        rw [ec]
        exact digitsVal_pos (by omega)
      have en : nv (tl x) = -((digitsVal (fg (tl x)) : Nat) : Int) := by unfold nv; rw [if_pos c1]
      rw [en]
      unfold zl
      rw [if_pos (by omega), show (-((digitsVal (fg (tl x)) : Nat) : Int)).natAbs = digitsVal (fg (tl x)) by omega, cn]
      exact e0.symm
    · have e0 : fg (tl x) = tl x := by unfold fg; rw [if_neg c1]
      have en : nv (tl x) = ((digitsVal (fg (tl x)) : Nat) : Int) := by unfold nv; rw [if_neg c1]
      rw [en]
      unfold zl
      rw [if_neg (by omega), show (((digitsVal (fg (tl x)) : Nat) : Int)).natAbs = digitsVal (fg (tl x)) by omega]
      by_cases hc : c = 48
      · have : tl x = [48] := by
          apply Decidable.byContradiction
          intro w
          exact hn ⟨by rw [ec, hc]; rfl, w⟩
        rw [e0, this]
        exact numL_lt (by decide)
      · rw [canon _ _ rfl hd ⟨c, r, ec, hc⟩, e0]
/-- both readings of one part -/
theorem whole_both {x : Str} (hx : TOk x) (hl : x.length ≤ 10000) (st : Sto) :
    (∃ z : Int, z.natAbs < bigN ∧ x = zs z ∧ f_read_whole [.str x] st = .ok (.int z) st ∧ f_l_whole [.str x] st = .ok (.int z) st) ∨ (f_read_whole [.str x] st = .ok .non st ∧ f_l_whole [.str x] st = .ok .non st) := by
  obtain ⟨F, hF, tF, lF, e0⟩ := figs_ok hx hl none st
  have e0' : b_l_whole_0 [some (.str x), none, none] st = .nx [some (.str x), some (.str F), none] st := e0
  obtain ⟨r1, r2⟩ := rw1_ok tF lF (some (.str x)) st
  obtain ⟨l1, l2⟩ := lw1_ok tF lF (some (.str x)) st
  by_cases hok : FOk (tl F)
  · have r := r1 hok
    have l := l1 hok
    have hok' : FOk (fg (tl x)) := hF ▸ hok
    have lx : x.length = (tl x).length := strLen x
    have hl4 : x.length ≤ 4000 := by
      have := hok'.2.1
      have q : (tl x).length ≤ (fg (tl x)).length + 1 := by
        unfold fg
        split
        · rw [List.length_drop]; omega
        · omega
      omega
    have hi := nv_int hok' hl4
    have hv := nv_lt hok'
    have oi : opIntS st [.str x] = some (.int (nv (tl x))) := by rw [opIntS_str, if_pos (by omega), hi]; rfl
    have os := strB hv st
    have eS := eq_str (TOk.int (nv (tl x))) hx st
    have ez : tl (zs (nv (tl x))) = zl (nv (tl x)) := tl_zs _
    have eS' : opEq st (.str (zs (nv (tl x)))) (.str x) = some (.bl (decide (zl (nv (tl x)) = tl x))) := by rw [← ez]; exact eS
    have own := own_word hok'
    -- the first figure
    obtain ⟨c, rr, ec⟩ : ∃ c r, tl F = c :: r := by
      cases q : tl F with
      | nil => exact absurd q hok.1
      | cons c r => exact ⟨c, r, rfl⟩
    have hat : opIx st (.str F) (.int 0) = some (.str ⟨#[c]⟩) := by
      rw [opIx_str, if_pos (by omega)]
      have : atI F.cps.toList 0 = some c := by
        show atI (tl F) 0 = _
        rw [ec]
        exact atI_0 _ _
      rw [this]
      rfl
    have ct : TOk (⟨#[c]⟩ : Str) := fun d hd => by
      have : d = c := by simpa using hd
      rw [this]
      exact tF c (by rw [ec]; exact List.mem_cons_self)
    have q1 := eq_str ct null_tok st
    have q2 := ne_str hx null_tok st
    rw [tl_null] at q1 q2
    rw [tl_one] at q1
    have hh : (fg (tl x)).head? = some 48 ↔ ([c] : List Nat) = [48] := by rw [← hF, ec]; simp
    have g2 : b_read_whole_2 [some (.str x), some (.str F), none] st = (if (fg (tl x)).head? = some 48 ∧ tl x ≠ [48] then .rt .non st else .nx [some (.str x), some (.str F), none] st) := by
      by_cases c1 : ([c] : List Nat) = [48]
      · rw [decide_eq_true c1] at q1
        by_cases c2 : tl x = [48]
        · rw [decide_eq_true c2] at q2
          rw [if_neg (fun z => z.2 c2)]
          exact if_no (tand_t (tval_ok (e2_ok (e2_ok (var_ok rfl) rfl hat) rfl q1)) (tval_ok (e2_ok (var_ok rfl) rfl q2)))
        · rw [decide_eq_false c2] at q2
          rw [if_pos ⟨hh.mpr c1, c2⟩]
          exact if_t (tand_t (tval_ok (e2_ok (e2_ok (var_ok rfl) rfl hat) rfl q1)) (tval_ok (e2_ok (var_ok rfl) rfl q2))) (ret_ok rfl)
      · rw [decide_eq_false c1] at q1
        rw [if_neg (fun z => c1 (hh.mp z.1))]
        exact if_no (tand_f (tval_ok (e2_ok (e2_ok (var_ok rfl) rfl hat) rfl q1)))
    by_cases hw : zl (nv (tl x)) = tl x
    · left
      rw [if_neg (own.mp hw)] at g2
      rw [decide_eq_true hw] at eS'
      refine ⟨nv (tl x), hv, ext_tl (by rw [tl_zs, hw]), body_rt ?_, body_rt ?_⟩
      · rw [b_read_whole_eq]
        exact seq_to e0 (seq_to r (seq_to g2 (ret_ok (built_ok (one_ok (var_ok rfl)) oi))))
      · rw [b_l_whole_eq]
        exact seq_to e0' (seq_to l (ret_ok (eif_t (tval_ok (e2_ok (built_ok (one_ok (built_ok (one_ok (var_ok rfl)) oi)) os) (var_ok rfl) eS')) (built_ok (one_ok (var_ok rfl)) oi))))
    · right
      have : (fg (tl x)).head? = some 48 ∧ tl x ≠ [48] := by
        apply Decidable.byContradiction
        intro z
        exact hw (own.mpr z)
      rw [if_pos this] at g2
      rw [decide_eq_false hw] at eS'
      refine ⟨body_rt ?_, body_rt ?_⟩
      · rw [b_read_whole_eq]
        exact seq_to e0 (seq_to r (seq_rt g2))
      · rw [b_l_whole_eq]
        exact seq_to e0' (seq_to l (ret_ok (eif_f (tval_ok (e2_ok (built_ok (one_ok (built_ok (one_ok (var_ok rfl)) oi)) os) (var_ok rfl) eS')) rfl)))
  · right
    refine ⟨body_rt ?_, body_rt ?_⟩
    · rw [b_read_whole_eq]
      exact seq_to e0 (seq_rt (r2 hok))
    · rw [b_l_whole_eq]
      exact seq_to e0' (seq_rt (l2 hok))
end K01
end
section
set_option Elab.async false
set_option linter.all false
set_option maxRecDepth 100000
set_option maxHeartbeats 1000000
open PySem PySem.Spec PyProof.Rows L2 LamX FL
namespace K01
open TL NumText
/-! ### cut at strokes, and put together -/
def joinW : List (List Nat) → List Nat
  | [] => []
  | [p] => p
  | p :: q :: r => p ++ 47 :: joinW (q :: r)
theorem spl_join : ∀ (l acc : List Nat), spl [47] 0 acc l ≠ [] ∧ joinW (spl [47] 0 acc l) = acc ++ l
  | [], acc => by simp [spl, joinW]
  | c :: r, acc => by
    unfold spl
    by_cases h : c = 47
    · subst h
      have ih := spl_join r []
      have p : pre [47] (47 :: r) = true := by simp [pre]
      rw [if_pos p]
      refine ⟨by simp, ?_⟩
      show joinW (acc :: spl [47] 0 [] r) = _
      cases q : spl [47] 0 [] r with
      | nil => exact absurd q ih.1
      | cons a b =>
        rw [q] at ih
        show acc ++ 47 :: joinW (a :: b) = _
        rw [ih.2]
        rfl
    · have ih := spl_join r (acc ++ [c])
      have p : ¬ pre [47] (c :: r) = true := by simp [pre, Ne.symm h]; exact fun z => h z
      rw [if_neg p]
      refine ⟨ih.1, ?_⟩
      rw [ih.2]
      simp
theorem join_mem : ∀ (ps : List (List Nat)) (p : List Nat), p ∈ ps → (∀ c ∈ p, c ∈ joinW ps) ∧ p.length ≤ (joinW ps).length
  | [], p, h => by simp at h
  | [a], p, h => by
    have : p = a := by simpa using h
    subst this
    exact ⟨fun c hc => hc, Nat.le_refl _⟩
  | a :: b :: r, p, h => by
    rcases List.mem_cons.mp h with e | e
    · subst e
      exact ⟨fun c hc => by show c ∈ p ++ 47 :: joinW (b :: r); exact List.mem_append_left _ hc, by show p.length ≤ (p ++ 47 :: joinW (b :: r)).length; simp⟩
    · obtain ⟨h1, h2⟩ := join_mem (b :: r) p e
      exact ⟨fun c hc => by show c ∈ a ++ 47 :: joinW (b :: r); exact List.mem_append_right _ (List.mem_cons_of_mem _ (h1 c hc)), by show p.length ≤ (a ++ 47 :: joinW (b :: r)).length; simp; omega⟩
theorem split_parts (x : Str) : (Txt.split x "/") ≠ [] ∧ joinW ((Txt.split x "/").map tl) = tl x := by
  have e := split_spl x "/" (by rw [tl_slash]; simp) (kind_ok _)
  rw [tl_slash] at e
  obtain ⟨h1, h2⟩ := spl_join (tl x) []
  rw [← e] at h1 h2
  exact ⟨fun z => by rw [z] at h1; exact h1 rfl, h2⟩
/-- the numbers of the parts -/
inductive Nums : List Str → List D → Prop where
  | nil : Nums [] []
  | non {x : Str} {xs : List Str} {ds : List D} : Nums xs ds → Nums (x :: xs) (.non :: ds)
  | int {z : Int} {xs : List Str} {ds : List D} : z.natAbs < bigN → Nums xs ds → Nums (zs z :: xs) (.int z :: ds)
theorem comps (a b : Option D) (st : Sto) : ∀ ps : List Str, (∀ p ∈ ps, TOk p ∧ p.length ≤ 10000) →
    ∃ ds, compL (.nm 3) tTrue (eCall 1 f_read_whole (aCons (eVar 3) aNil)) [a, b, none, none] (ps.map D.str) st = .ok ds st ∧ compL (.nm 3) tTrue (eCall 1 f_l_whole (aCons (eVar 3) aNil)) [a, b, none, none] (ps.map D.str) st = .ok ds st ∧ Nums ps ds
  | [], _ => ⟨[], rfl, rfl, .nil⟩
  | p :: ps, h => by
    obtain ⟨ds, e1, e2, hN⟩ := comps a b st ps (fun q hq => h q (List.mem_cons_of_mem _ hq))
    obtain ⟨hp, hl⟩ := h p List.mem_cons_self
    rcases whole_both hp hl st with ⟨z, hz, rfl, r1, r2⟩ | ⟨r1, r2⟩
    · refine ⟨.int z :: ds, ?_, ?_, .int hz hN⟩
      · simp only [List.map_cons]
        generalize f_read_whole = f at *
        simp [r1, e1]
      · simp only [List.map_cons]
        generalize f_l_whole = f at *
        simp [r2, e2]
    · refine ⟨.non :: ds, ?_, ?_, .non hN⟩
      · simp only [List.map_cons]
        generalize f_read_whole = f at *
        simp [r1, e1]
      · simp only [List.map_cons]
        generalize f_l_whole = f at *
        simp [r2, e2]
theorem Nums.len {ps : List Str} {ds : List D} (h : Nums ps ds) : ds.length = ps.length := by
  induction h with
  | nil => rfl
  | non _ ih => simp [ih]
  | int _ _ ih => simp [ih]
theorem Nums.shk {ps : List Str} {ds : List D} (h : Nums ps ds) : ds.all (D.shk 63) = true := by
  induction h with
  | nil => rfl
  | non _ ih => simp [ih]
  | int _ _ ih => simp [ih]
/-- none is missing: all parts are words of numbers -/
theorem Nums.cases {ps : List Str} {ds : List D} (h : Nums ps ds) : (ds.any fun z => D.eqv z .non) = true ∨ ((ds.any fun z => D.eqv z .non) = false ∧ ∃ ns : List Int, ps = ns.map zs ∧ ds = ns.map D.int ∧ ∀ z ∈ ns, z.natAbs < bigN) := by
  induction h with
  | nil => exact .inr ⟨rfl, [], rfl, rfl, by simp⟩
  | non _ _ => exact .inl (by simp)
  | @int z xs ds hz _ ih =>
    rcases ih with h | ⟨h, ns, e1, e2, h3⟩
    · exact .inl (by simp [h])
    · refine .inr ⟨by simp [h], z :: ns, by simp [e1], by simp [e2], ?_⟩
      intro y hy
      rcases List.mem_cons.mp hy with e | e
      · rw [e]; exact hz
      · exact h3 y e
theorem big_lt : bigN < 2 ^ 7000 := by
  rw [bigN_eq]
  have e1 : 10 ^ 2000 = (10 ^ 2) ^ 1000 := by rw [← Nat.pow_mul]
  have e2 : 2 ^ 7000 = (2 ^ 7) ^ 1000 := by rw [← Nat.pow_mul]
  rw [e1, e2]
  exact Nat.pow_lt_pow_left (by decide) (by decide)
theorem big_ge : 1000 ≤ bigN := by
  rw [bigN_eq]
  have e : 10 ^ 3 ≤ 10 ^ 2000 := Nat.pow_le_pow_right (by decide) (by decide)
  exact e
/-- what both readings find -/
def RD (x : Str) (d : D) : Prop := d = .non ∨ ∃ p : Int × Int, d = rat p ∧ Tx p ∧ x = wd p
theorem read_both {x : Str} (hx : TOk x) (hl : x.length ≤ 10000) (st : Sto) : ∃ d, f_read_ratio [.str x] st = .ok d st ∧ f_l_read [.str x] st = .ok d st ∧ RD x d := by
  obtain ⟨hne, hj⟩ := split_parts x
  have os : opSplit st (.str x) (.str "/") = some (.lst ((Txt.split x "/").map .str)) := by
    show (if _ then _ else none) = _
    rw [if_pos ⟨by rw [len_slash]; rfl, by omega⟩]
  have lx : x.length = (tl x).length := strLen x
  have hparts : ∀ p ∈ Txt.split x "/", TOk p ∧ p.length ≤ 10000 := fun p hp => by
    obtain ⟨h1, h2⟩ := join_mem _ (tl p) (List.mem_map_of_mem hp)
    rw [hj] at h1 h2
    exact ⟨fun c hc => hx c (h1 c hc), by rw [strLen]; omega⟩
  have hplen : (Txt.split x "/").length < 16777216 := by
    have : ∀ ps : List (List Nat), ps.length ≤ (joinW ps).length + 1 := by
      intro ps
      induction ps with
      | nil => simp
      | cons a r ih =>
        cases r with
        | nil => simp
        | cons b r =>
          show _ ≤ (a ++ 47 :: joinW (b :: r)).length + 1
          simp at ih ⊢
          omega
    have := this ((Txt.split x "/").map tl)
    rw [hj, List.length_map] at this
    omega
  generalize Txt.split x "/" = ps at *
  obtain ⟨ds, c1, c2, hN⟩ := comps (some (.str x)) (some (.lst (ps.map .str))) st ps hparts
  have hlen := hN.len
  -- the first two statements of both
  have sp : ∀ γ : Gam, γ[0]? = some (some (.str x)) → eSplit (eVar 0) (eC (.str "/")) γ st = .ok (.lst (ps.map .str)) st := fun γ h => by
    simp only [eSplit, var_ok h, Res.bind, kSplit, eC, os, Res.of]
  have a1 : b_read_ratio_1 [some (.str x), none, none, none] st = .nx [some (.str x), some (.lst (ps.map .str)), none, none] st := set_ok (sp _ rfl)
  have b1 : b_l_read_0 [some (.str x), none, none, none] st = .nx [some (.str x), some (.lst (ps.map .str)), none, none] st := set_ok (sp _ rfl)
  have a2 : b_read_ratio_2 [some (.str x), some (.lst (ps.map .str)), none, none] st = .nx [some (.str x), some (.lst (ps.map .str)), some (.lst ds), none] st :=
    set_ok (cmp_ok (ds := ps.map D.str) (st1 := st) rfl (by rw [List.length_map]; exact hplen) c1)
  have b2 : b_l_read_1 [some (.str x), some (.lst (ps.map .str)), none, none] st = .nx [some (.str x), some (.lst (ps.map .str)), some (.lst ds), none] st :=
    set_ok (cmp_ok (ds := ps.map D.str) (st1 := st) rfl (by rw [List.length_map]; exact hplen) c2)
  have a0 : b_read_ratio_0 [some (.str x), none, none, none] st = .nx [some (.str x), none, none, none] st := by
    have o : opIsi subX st [.str x, .ty "str"] = some (.bl true) := by simp [ss]
    exact if_no (tnot_ok (tval_ok (built_ok (two_ok (var_ok rfl) rfl) o)))
  have oin : opIn st .non (.lst ds) = some (.bl (ds.any fun z => D.eqv z .non)) := by
    rw [opIn_lst, shp_non, shp_lst, hN.shk]
    rfl
  have ol : ∀ γ : Gam, γ[1]? = some (some (.lst (ps.map .str))) → eBuilt (opLen) (aCons (eVar 1) aNil) γ st = .ok (.int ps.length) st := fun γ h => by
    refine built_ok (one_ok (var_ok h)) ?_
    rw [opLen_lst, List.length_map]
  have tin := tval_ok (e2_ok (γ := [some (.str x), some (.lst (ps.map .str)), some (.lst ds), none]) (fa := eC .non) (fb := eVar 2) rfl (var_ok rfl) oin)
  have tgt := tval_ok (gt_ok (γ := [some (.str x), some (.lst (ps.map .str)), some (.lst ds), none]) (b := eC (.int 2)) (ol _ rfl) rfl)
  have fin : ∀ d, RD x d → sSeq b_read_ratio_3 (sSeq b_read_ratio_4 (sSeq b_read_ratio_5 b_read_ratio_6)) [some (.str x), some (.lst (ps.map .str)), some (.lst ds), none] st = .rt d st →
      sSeq b_l_read_2 (sSeq b_l_read_3 b_l_read_4) [some (.str x), some (.lst (ps.map .str)), some (.lst ds), none] st = .rt d st → ∃ d, f_read_ratio [.str x] st = .ok d st ∧ f_l_read [.str x] st = .ok d st ∧ RD x d := by
    intro d hd h1 h2
    refine ⟨d, body_rt ?_, body_rt ?_, hd⟩
    · rw [b_read_ratio_eq]
      exact seq_to a0 (seq_to a1 (seq_to a2 h1))
    · rw [b_l_read_eq]
      exact seq_to b1 (seq_to b2 h2)
  rcases hN.cases with hz | ⟨hz, ns, e1, e2, h3⟩
  · rw [hz] at tin
    refine fin .non (.inl rfl) ?_ (seq_rt (if_t (tor_t tin) (ret_ok rfl)))
    by_cases hg : (2 : Int) < ps.length
    · rw [decide_eq_true hg] at tgt
      exact seq_rt (if_t (tor_t tgt) (ret_ok rfl))
    · rw [decide_eq_false hg] at tgt
      exact seq_rt (if_t (tor_f tgt tin) (ret_ok rfl))
  · rw [hz] at tin
    have hll : ps.length = ns.length := by rw [e1, List.length_map]
    by_cases hg : (2 : Int) < ps.length
    · rw [decide_eq_true hg] at tgt
      exact fin .non (.inl rfl) (seq_rt (if_t (tor_t tgt) (ret_ok rfl))) (seq_rt (if_t (tor_f tin tgt) (ret_ok rfl)))
    · rw [decide_eq_false hg] at tgt
      have a3 : b_read_ratio_3 [some (.str x), some (.lst (ps.map .str)), some (.lst ds), none] st = .nx [some (.str x), some (.lst (ps.map .str)), some (.lst ds), none] st := if_no (tor_f tgt tin)
      have b3 : b_l_read_2 [some (.str x), some (.lst (ps.map .str)), some (.lst ds), none] st = .nx [some (.str x), some (.lst (ps.map .str)), some (.lst ds), none] st := if_no (tor_f tin tgt)
      have teq := tval_ok (eqi_ok (γ := [some (.str x), some (.lst (ps.map .str)), some (.lst ds), none]) (b := eC (.int 1)) (ol _ rfl) rfl)
      match ns, e1, e2, h3, hll with
      | [], e1, _, _, _ => exact absurd e1 hne
      | [z], e1, e2, h3, hll =>
        rw [decide_eq_true (show (ps.length : Int) = 1 by rw [hll]; rfl)] at teq
        have hzb := h3 z List.mem_cons_self
        have hx' : x = wd (z, 1) := ext_tl (by
          rw [← hj, e1]
          unfold wd
          rw [if_pos rfl, tl_append, tl_empty, List.append_nil]
          rfl)
        have o0 : opIx st (.lst ds) (.int 0) = some (.int z) := by rw [opIx_lst, e2]; exact atI_0 _ _
        have big := big_ge
        exact fin (rat (z, 1)) (.inr ⟨(z, 1), rfl, ⟨hzb, by show (1 : Int).natAbs < bigN; omega⟩, hx'⟩)
          (seq_to a3 (seq_rt (if_t teq (ret_ok (tup_ok (two_ok (e2_ok (var_ok rfl) rfl o0) rfl) (by simp))))))
          (seq_to b3 (seq_rt (if_t teq (ret_ok (tup_ok (two_ok (e2_ok (var_ok rfl) rfl o0) rfl) (by simp))))))
      | [z, y], e1, e2, h3, hll =>
        rw [decide_eq_false (show ¬ (ps.length : Int) = 1 by rw [hll]; simp)] at teq
        have hzb := h3 z List.mem_cons_self
        have hyb := h3 y (List.mem_cons_of_mem _ List.mem_cons_self)
        have o0 : opIx st (.lst ds) (.int 0) = some (.int z) := by rw [opIx_lst, e2]; exact atI_0 _ _
        have o1 : opIx st (.lst ds) (.int 1) = some (.int y) := by rw [opIx_lst, e2]; exact atI_1 _ _ _
        have i0 := fun γ (h : γ[2]? = some (some (.lst ds))) => e2_ok (fa := eVar 2) (fb := eC (.int 0)) (γ := γ) (st := st) (var_ok h) rfl o0
        have i1 := fun γ (h : γ[2]? = some (some (.lst ds))) => e2_ok (fa := eVar 2) (fb := eC (.int 1)) (γ := γ) (st := st) (var_ok h) rfl o1
        have sh := shared_ok z y st (Nat.lt_of_lt_of_le hyb (Nat.le_of_lt big_lt))
        have og : opGcd st [.int z, .int y] = some (.int (Int.gcd z y)) := opGcd_int st z y
        have t1 := tval_ok (lt_ok (b := eC (.int 2)) (i1 [some (.str x), some (.lst (ps.map .str)), some (.lst ds), none] rfl) rfl)
        have t2 := tval_ok (nei_ok (b := eC (.int 1)) (built_ok (two_ok (i0 [some (.str x), some (.lst (ps.map .str)), some (.lst ds), none] rfl) (i1 _ rfl)) og) rfl)
        have u1 := tval_ok (gt_ok (b := eC (.int 1)) (i1 [some (.str x), some (.lst (ps.map .str)), some (.lst ds), none] rfl) rfl)
        have u2 := tval_ok (eqi_ok (b := eC (.int 1)) (call2 (i0 [some (.str x), some (.lst (ps.map .str)), some (.lst ds), none] rfl) (i1 _ rfl) sh) rfl)
        by_cases hy : y < 2
        · rw [decide_eq_true hy] at t1
          rw [decide_eq_false (show ¬ (1 : Int) < y by omega)] at u1
          exact fin .non (.inl rfl) (seq_to a3 (seq_to (if_no teq) (seq_rt (if_t (tor_t t1) (ret_ok rfl))))) (seq_to b3 (seq_to (if_no teq) (ret_ok (eif_f (tand_f u1) rfl))))
        · rw [decide_eq_false hy] at t1
          rw [decide_eq_true (show (1 : Int) < y by omega)] at u1
          by_cases hgc : (Int.gcd z y : Int) = 1
          · rw [decide_eq_true hgc] at t2 u2
            have hx' : x = wd (z, y) := ext_tl (by
              rw [← hj, e1]
              unfold wd
              rw [if_neg (show ¬ y = 1 by omega), tl_append, tl_append, tl_slash]
              rfl)
            exact fin (rat (z, y)) (.inr ⟨(z, y), rfl, ⟨hzb, hyb⟩, hx'⟩)
              (seq_to a3 (seq_to (if_no teq) (seq_to (if_no (tor_f t1 t2)) (ret_ok (tup_ok (two_ok (i0 _ rfl) (i1 _ rfl)) (by simp))))))
              (seq_to b3 (seq_to (if_no teq) (ret_ok (eif_t (tand_t u1 u2) (built_ok (one_ok (var_ok rfl)) (by rw [opTuple_lst, e2]; rfl))))))
          · rw [decide_eq_false hgc] at t2 u2
            exact fin .non (.inl rfl) (seq_to a3 (seq_to (if_no teq) (seq_rt (if_t (tor_f t1 t2) (ret_ok rfl))))) (seq_to b3 (seq_to (if_no teq) (ret_ok (eif_f (tand_t u1 u2) rfl))))
      | _ :: _ :: _ :: _, _, _, _, hll => simp at hll; omega
end K01
end
section
set_option Elab.async false
set_option linter.all false
set_option maxRecDepth 100000
set_option maxHeartbeats 1000000
open PySem PySem.Spec PyProof.Rows L2 LamX FL
namespace K01
open TL NumText
theorem sl_ok {f : EF} {p q : Gam → Sto → Res (Option Int)} {γ : Gam} {st st1 st2 st3 : Sto} {d r : D} {lo hi : Option Int} (h : f γ st = .ok d st1) (h1 : p γ st1 = .ok lo st2) (h2 : q γ st2 = .ok hi st3) (h3 : opSl st3 d lo hi = some r) : eSl f p q γ st = .ok r st3 := by
  simp only [eSl, h, Res.bind, h1, h2, h3, Res.of]
theorem psome_ok {f : EF} {γ : Gam} {st st1 : Sto} {i : Int} (h : f γ st = .ok (.int i) st1) : pSome f γ st = .ok (some i) st1 := by
  simp only [pSome, h, Res.bind, kPart]
theorem cut_sub (w : Str) (lo hi : Option Int) : (∀ c ∈ tl (cutS w lo hi), c ∈ tl w) ∧ (cutS w lo hi).length ≤ w.length := by
  have e : tl (cutS w lo hi) = (((tl w).drop (HT.sIx w.length 0 lo)).take (HT.sIx w.length w.length hi - HT.sIx w.length 0 lo)) := rfl
  refine ⟨fun c hc => ?_, ?_⟩
  · rw [e] at hc
    exact List.mem_of_mem_drop (List.mem_of_mem_take hc)
  · rw [strLen, strLen, e, List.length_take, List.length_drop]
    omega
/-- a word of right signs, not too long -/
def Wo (n : Nat) (x : Str) : Prop := TOk x ∧ x.length ≤ n
theorem Wo.cut {n : Nat} {x : Str} (h : Wo n x) (lo hi : Option Int) : Wo n (cutS x lo hi) := ⟨fun c hc => h.1 c ((cut_sub x lo hi).1 c hc), Nat.le_trans (cut_sub x lo hi).2 h.2⟩
theorem Wo.app {n m : Nat} {x y : Str} (h : Wo n x) (k : Wo m y) : Wo (n + m) (x ++ y) := ⟨h.1.app k.1, by rw [Str.length_append]; have := h.2; have := k.2; omega⟩
theorem Wo.add {n m : Nat} {x y : Str} (h : Wo n x) (k : Wo m y) (hs : n + m ≤ 16777216) (st : Sto) : opAdd st (.str x) (.str y) = some (.str (x ++ y)) := by
  rw [opAdd_str, if_pos (by have := h.2; have := k.2; omega)]
theorem Wo.mono {n m : Nat} {x : Str} (h : Wo n x) (k : n ≤ m) : Wo m x := ⟨h.1, Nat.le_trans h.2 k⟩
theorem Wo.int {z : Int} (h : z.natAbs < 1000) : Wo 4 (zs z) := ⟨TOk.int z, by
  have := zl_len (z := z) (k := 3) (by decide) (by omega)
  rw [strLen, tl_zs]
  omega⟩
theorem Wo.lit {s : String} (n : Nat) (h : ((Str.ofString s).cps.toList.all fun c => decide (c < 1114112)) = true := by decide +kernel) (hl : (Str.ofString s).cps.size ≤ n := by decide +kernel) : Wo n (Str.ofString s) :=
  ⟨fun c hc => of_decide_eq_true (List.all_eq_true.mp h c hc), hl⟩
theorem Wo.rep (n : Nat) : Wo n (repS "9" n) := ⟨fun c hc => by
  rw [tl_rep tl_d9] at hc
  have := List.eq_of_mem_replicate hc
  omega, by rw [strLen, tl_rep tl_d9, List.length_replicate]; exact Nat.le_refl _⟩
theorem rep_ok (k : Nat) (h1 : 1 ≤ k) (h2 : k ≤ 100000) (st : Sto) : opMul st (.str "9") (.int k) = some (.str (repS "9" k)) := by
  have l9 : ("9" : Str).length = 1 := by rw [strLen, tl_d9]; rfl
  rw [opMul_str, l9, if_pos ⟨by omega, by omega, by omega⟩]
  rfl
def SG : List Str := ["0", "1", "2", "-", "/", " ", "+", "_", ".", "a", "\n", ""]
theorem SG_ok : ∀ x ∈ SG, Wo 1 x := by
  intro x hx
  simp only [SG, List.mem_cons, List.not_mem_nil, or_false] at hx
  rcases hx with rfl | rfl | rfl | rfl | rfl | rfl | rfl | rfl | rfl | rfl | rfl | rfl <;> exact Wo.lit 1
def WL : List Str := ["", "-", "/", "-0", "0/2", "00", "1/", "/2", "2/1", "-3/2", "0", repS "9" 2000, repS "9" 2001, ("1/" : Str) ++ repS "9" 2000, ("1/" : Str) ++ repS "9" 2001]
theorem WL_ok : ∀ x ∈ WL, Wo 3000 x := by
  intro x hx
  simp only [WL, List.mem_cons, List.not_mem_nil, or_false] at hx
  rcases hx with rfl | rfl | rfl | rfl | rfl | rfl | rfl | rfl | rfl | rfl | rfl | rfl | rfl | rfl | rfl
  · exact Wo.lit 3000
  · exact Wo.lit 3000
  · exact Wo.lit 3000
  · exact Wo.lit 3000
  · exact Wo.lit 3000
  · exact Wo.lit 3000
  · exact Wo.lit 3000
  · exact Wo.lit 3000
  · exact Wo.lit 3000
  · exact Wo.lit 3000
  · exact Wo.lit 3000
  · exact (Wo.rep 2000).mono (by decide)
  · exact (Wo.rep 2001).mono (by decide)
  · exact ((Wo.lit (s := "1/") 2).app (Wo.rep 2000)).mono (by decide)
  · exact ((Wo.lit (s := "1/") 2).app (Wo.rep 2001)).mono (by decide)
theorem bent_ok {ns : List Int} (hns : ∀ z ∈ ns, z.natAbs.log2 ≤ 1048576) {B : Nat} {st : Sto} (h : Pen ns B st) (hB : B < 4000) :
    ∃ (W : Str) (st' : Sto), f_l_bent [.cell 0] st = .ok (.str W) st' ∧ Wo 3000 W ∧ Pen ns (B + 6) st' := by
  obtain ⟨t, s1, f1, t0, t1, h1⟩ := draw_ok hns h (by omega) (many := 30) (by decide) (by decide)
  obtain ⟨b, s2, f2, b0, b1, h2⟩ := draw_ok hns h1 (by omega) (many := 9) (by decide) (by decide)
  obtain ⟨way, s3, f3, w0, w1, h3⟩ := draw_ok hns h2 (by omega) (many := 6) (by decide) (by decide)
  have wt : Wo 4 (zs (t - 10)) := Wo.int (by omega)
  have wb : Wo 4 (zs (1 + b)) := Wo.int (by omega)
  have ws : Wo 1 ("/" : Str) := Wo.lit 1
  have sb := fun (z : Int) (hz : z.natAbs < 1000) => strB (z := z) (by have := big_ge; omega)
  have st1 := sb (t - 10) (by omega) s2
  have st2 := sb (1 + b) (by omega) s2
  have wW := (wt.app ws).app wb
  have o1 := wt.add ws (by decide) s2
  have o2 := (wt.app ws).add wb (by decide) s2
  have hlen : 0 < (zs (t - 10) ++ ("/" : Str) ++ zs (1 + b)).length := by
    rw [Str.length_append, Str.length_append, len_slash]
    omega
  have hl9 := wW.2
  generalize zs (t - 10) ++ ("/" : Str) ++ zs (1 + b) = word at *
  have ol : opLen s3 [.str word] = some (.int word.length) := by rw [opLen_str, if_pos (by omega)]
  obtain ⟨at_, s4, f4, a0, a1, h4⟩ := draw_ok hns h3 (by omega) (many := word.length) (by omega) (by omega)
  obtain ⟨d, s5, f5, m5, h5⟩ := pick_ok hns h4 (by omega) (xs := SG.map D.str) (by simp [SG]) (by simp [SG])
  obtain ⟨sg, hsg, rfl⟩ := List.mem_map.mp m5
  have wsg := SG_ok sg hsg
  have q0 : b_l_bent_0 (startG 7 [.cell 0]) st = .nx [some (.cell 0), some (.int (t - 10)), some (.int (1 + b)), none, none, none, none] s2 :=
    par2_ok (two_ok (sub_ok (call2 (var_ok rfl) rfl f1) rfl) (add_ok rfl (call2 (var_ok rfl) rfl f2)))
  have q1 : b_l_bent_1 [some (.cell 0), some (.int (t - 10)), some (.int (1 + b)), none, none, none, none] s2 = .nx [some (.cell 0), some (.int (t - 10)), some (.int (1 + b)), some (.str word), some (.int way), none, none] s3 :=
    par2_ok (two_ok (e2_ok (e2_ok (built_ok (one_ok (var_ok rfl)) st1) rfl o1) (built_ok (one_ok (var_ok rfl)) st2) o2) (call2 (var_ok rfl) rfl f3))
  have q2 : b_l_bent_2 [some (.cell 0), some (.int (t - 10)), some (.int (1 + b)), some (.str word), some (.int way), none, none] s3 = .nx [some (.cell 0), some (.int (t - 10)), some (.int (1 + b)), some (.str word), some (.int way), some (.int at_), none] s4 :=
    set_ok (call2 (var_ok rfl) (built_ok (one_ok (var_ok rfl)) ol) f4)
  have q3 : b_l_bent_3 [some (.cell 0), some (.int (t - 10)), some (.int (1 + b)), some (.str word), some (.int way), some (.int at_), none] s4 = .nx [some (.cell 0), some (.int (t - 10)), some (.int (1 + b)), some (.str word), some (.int way), some (.int at_), some (.str sg)] s5 :=
    set_ok (call2 (var_ok rfl) (lst_ok (cons_ok rfl (cons_ok rfl (cons_ok rfl (cons_ok rfl (cons_ok rfl (cons_ok rfl (cons_ok rfl (cons_ok rfl (cons_ok rfl (cons_ok rfl (cons_ok rfl (cons_ok rfl nil_ok)))))))))))) (by simp)) f5)
  have sl := fun lo hi (s : Sto) => cutW (x := word) (by omega) s lo hi
  have i5 : ∀ s : Sto, pSome (eVar 5) [some (.cell 0), some (.int (t - 10)), some (.int (1 + b)), some (.str word), some (.int way), some (.int at_), some (.str sg)] s = .ok (some at_) s := fun s => psome_ok (var_ok rfl)
  have i6 : ∀ s : Sto, pSome (e2 opAdd (eVar 5) (eC (.int 1))) [some (.cell 0), some (.int (t - 10)), some (.int (1 + b)), some (.str word), some (.int way), some (.int at_), some (.str sg)] s = .ok (some (at_ + 1)) s := fun s => psome_ok (add_ok (var_ok rfl) rfl)
  have lo := wW.cut none (some at_)
  have hi := wW.cut (some at_) none
  have hi1 := wW.cut (some (at_ + 1)) none
  have p1 := lo.add wsg (by decide) s5
  have p2 := (lo.app wsg).add hi (by decide) s5
  have p3 := (lo.app wsg).add hi1 (by decide) s5
  have p4 := lo.add hi1 (by decide) s5
  have fin : ∀ (W : Str) (s6 : Sto), Wo 3000 W → Pen ns (B + 6) s6 → sSeq b_l_bent_4 (sSeq b_l_bent_5 (sSeq b_l_bent_6 b_l_bent_7)) [some (.cell 0), some (.int (t - 10)), some (.int (1 + b)), some (.str word), some (.int way), some (.int at_), some (.str sg)] s5 = .rt (.str W) s6 →
      ∃ (W : Str) (st' : Sto), f_l_bent [.cell 0] st = .ok (.str W) st' ∧ Wo 3000 W ∧ Pen ns (B + 6) st' := by
    intro W s6 hW hP h
    refine ⟨W, s6, body_rt ?_, hW, hP⟩
    rw [b_l_bent_eq]
    exact seq_to q0 (seq_to q1 (seq_to q2 (seq_to q3 h)))
  have tw := fun k : Int => tval_ok (eqi_ok (γ := [some (.cell 0), some (.int (t - 10)), some (.int (1 + b)), some (.str word), some (.int way), some (.int at_), some (.str sg)]) (st := s5) (a := eVar 4) (b := eC (.int k)) (var_ok rfl) rfl)
  have tn : ∀ k : Int, ¬ way = k → tVal (e2 opEq (eVar 4) (eC (.int k))) [some (.cell 0), some (.int (t - 10)), some (.int (1 + b)), some (.str word), some (.int way), some (.int at_), some (.str sg)] s5 = .ok false s5 := fun k hk => by
    have := tw k
    rw [decide_eq_false hk] at this
    exact this
  have ty : ∀ k : Int, way = k → tVal (e2 opEq (eVar 4) (eC (.int k))) [some (.cell 0), some (.int (t - 10)), some (.int (1 + b)), some (.str word), some (.int way), some (.int at_), some (.str sg)] s5 = .ok true s5 := fun k hk => by
    have := tw k
    rw [decide_eq_true hk] at this
    exact this
  have hp5 : Pen ns (B + 6) s5 := h5.mono (by omega)
  by_cases c0 : way = 0
  · exact fin _ s5 (((lo.app wsg).app hi).mono (by decide)) hp5 (seq_rt (if_t (ty 0 c0) (ret_ok (e2_ok (e2_ok (sl_ok (var_ok rfl) rfl (i5 _) (sl _ _ _)) (var_ok rfl) p1) (sl_ok (var_ok rfl) (i5 _) rfl (sl _ _ _)) p2))))
  · by_cases c1 : way = 1
    · exact fin _ s5 (((lo.app wsg).app hi1).mono (by decide)) hp5 (seq_to (if_no (tn 0 c0)) (seq_rt (if_t (ty 1 c1) (ret_ok (e2_ok (e2_ok (sl_ok (var_ok rfl) rfl (i5 _) (sl _ _ _)) (var_ok rfl) p1) (sl_ok (var_ok rfl) (i6 _) rfl (sl _ _ _)) p3)))))
    · by_cases c2 : way = 2
      · exact fin _ s5 ((lo.app hi1).mono (by decide)) hp5 (seq_to (if_no (tn 0 c0)) (seq_to (if_no (tn 1 c1)) (seq_rt (if_t (ty 2 c2) (ret_ok (e2_ok (sl_ok (var_ok rfl) rfl (i5 _) (sl _ _ _)) (sl_ok (var_ok rfl) (i6 _) rfl (sl _ _ _)) p4))))))
      · have tl5 := tval_ok (lt_ok (γ := [some (.cell 0), some (.int (t - 10)), some (.int (1 + b)), some (.str word), some (.int way), some (.int at_), some (.str sg)]) (st := s5) (a := eVar 4) (b := eC (.int 5)) (var_ok rfl) rfl)
        by_cases c5 : way < 5
        · rw [decide_eq_true c5] at tl5
          exact fin _ s5 (wW.mono (by decide)) hp5 (seq_to (if_no (tn 0 c0)) (seq_to (if_no (tn 1 c1)) (seq_to (if_no (tn 2 c2)) (ret_ok (eif_t tl5 (var_ok rfl))))))
        · rw [decide_eq_false c5] at tl5
          obtain ⟨d, s6, f6, m6, h6⟩ := pick_ok hns h5 (by omega) (xs := WL.map D.str) (by simp [WL]) (by simp [WL])
          obtain ⟨W, hW, rfl⟩ := List.mem_map.mp m6
          have r0 := rep_ok 2000 (by decide) (by decide) s5
          have r1 := rep_ok 2001 (by decide) (by decide) s5
          have r2 := (Wo.lit (s := "1/") 2).add (Wo.rep 2000) (by decide) s5
          have r3 := (Wo.lit (s := "1/") 2).add (Wo.rep 2001) (by decide) s5
          have hWo := WL_ok W hW
          refine fin W s6 hWo (h6.mono (by omega)) (seq_to (if_no (tn 0 c0)) (seq_to (if_no (tn 1 c1)) (seq_to (if_no (tn 2 c2)) (ret_ok (eif_f tl5 (call2 (var_ok rfl) (lst_ok (ds := WL.map D.str) ?_ (by simp [WL])) f6))))))
          unfold WL
          simp only [List.map_cons, List.map_nil]
          generalize repS "9" 2000 = R0 at *
          generalize repS "9" 2001 = R1 at *
          exact cons_ok rfl (cons_ok rfl (cons_ok rfl (cons_ok rfl (cons_ok rfl (cons_ok rfl (cons_ok rfl (cons_ok rfl (cons_ok rfl (cons_ok rfl (cons_ok rfl (cons_ok (e2_ok rfl rfl r0) (cons_ok (e2_ok rfl rfl r1) (two_ok (e2_ok rfl (e2_ok rfl rfl r0) r2) (e2_ok rfl (e2_ok rfl rfl r1) r3))))))))))))))
end K01
end
section
set_option Elab.async false
set_option linter.all false
set_option maxRecDepth 100000
set_option maxHeartbeats 1000000
open PySem PySem.Spec PyProof.Rows L2 LamX FL
namespace K01
open TL NumText
theorem comp_none {t : Tg} {c : TF} {f : EF} {γ : Gam} {st : Sto} : ∀ ds : List D, (∀ d ∈ ds, ∃ γ1, t.put d γ = some γ1 ∧ c γ1 st = .ok false st) → compL t c f γ ds st = .ok [] st
  | [], _ => rfl
  | d :: ds, h => by
    obtain ⟨γ1, h1, h2⟩ := h d List.mem_cons_self
    have ih := comp_none (t := t) (c := c) (f := f) (γ := γ) (st := st) ds fun e he => h e (List.mem_cons_of_mem _ he)
    simp only [compL, h1, h2, Res.nox, Res.bind, Bool.false_eq_true, if_false, ih]
theorem ne_nil (st : Sto) : opNe st (.lst []) (.lst []) = some (.bl false) := by simp
/-! ### the pen, the first loop -/
theorem ints_comp (γ0 : Option D) (st : Sto) : ∀ ns : List Int, compL (.nm 1) tTrue (eBuilt opIntS (aCons (eVar 1) aNil)) [γ0, none] (ns.map D.int) st = .ok (ns.map D.int) st
  | [] => rfl
  | n :: ns => by
    have := ints_comp γ0 st ns
    simp [this]
theorem cut_all (ns : List Int) (h : ns.length ≤ 63) : FL.cutD (ns.map D.int) none (some 63) = ns.map D.int := by
  unfold FL.cutD
  have e : HT.sIx (ns.map D.int).length (ns.map D.int).length (some 63) = min 63 (ns.map D.int).length := HT.sIx_nat _ _ 63
  have e0 : HT.sIx (ns.map D.int).length 0 none = 0 := rfl
  rw [e, e0, List.drop_zero, List.length_map, Nat.min_eq_right h, Nat.sub_zero, List.take_of_length_le (by simp)]
theorem pen_ok (ns : List Int) (h : ns.length ≤ 63) : f_l_pen [.ro (ns.map D.int)] [] = .ok (.cell 0) (penS ns 0 0 []) := by
  have o : opSl [] (.ro (ns.map D.int)) none (some 63) = some (.lst (ns.map D.int)) := by
    show some (D.lst (FL.cutD _ _ _)) = _
    rw [cut_all ns h]
  have c := ints_comp (some (.ro (ns.map D.int))) [] ns
  have hl : ns.length < 16777216 := by omega
  unfold f_l_pen b_l_pen penS
  simp [o, c, hl]
/-- the slots of the law behind the pen -/
abbrev LG (s t w d o b g : Option D) (u : List (Option D)) : Gam := s :: some (.cell 0) :: t :: w :: d :: o :: b :: g :: u
theorem none_tok : TOk ("None" : Str) := TOk.lit
theorem b1_ok {ns : List Int} (hns : ∀ z ∈ ns, z.natAbs.log2 ≤ 1048576) {B : Nat} {st : Sto} (h : Pen ns B st) (hB : B < 3000) (s t w d o b g : Option D) (u : List (Option D)) :
    ∃ (w' d' : Option D) (st' : Sto), b_law_1b (LG s t w d o b g u) st = .nx (LG s t w' d' o b g u) st' ∧ Pen ns (B + 6) st' := by
  obtain ⟨W, s1, e1, hW, h1⟩ := bent_ok hns h (by omega)
  obtain ⟨due, r1, r2, hd⟩ := read_both hW.1 (Nat.le_trans hW.2 (by decide)) s1
  refine ⟨some (.str W), some due, s1, ?_, h1⟩
  have q0 : b_law_1b_0 (LG s t w d o b g u) st = .nx (LG s t (some (.str W)) d o b g u) s1 := set_ok (call1 (var_ok rfl) e1)
  have q1 : b_law_1b_1 (LG s t (some (.str W)) d o b g u) s1 = .nx (LG s t (some (.str W)) (some due) o b g u) s1 := set_ok (call1 (var_ok rfl) r2)
  refine seq_to q0 (seq_to q1 ?_)
  rcases hd with rfl | ⟨p, rfl, tp, hw⟩
  · exact if_no (tor_f (tval_ok (e2_ok (built_ok (one_ok (call1 (var_ok rfl) r1)) (opReprW_non s1)) (built_ok (one_ok (var_ok rfl)) (opReprW_non s1)) (ne_self s1 none_tok.shp rfl))) (tand_f (tval_ok (e2_ok (var_ok rfl) rfl rfl))))
  · have le : bigN ≤ 10 ^ 4300 := by rw [bigN_eq]; exact Nat.pow_le_pow_right (by decide) (by decide)
    have o := opReprW_two s1 p.1 p.2 (Nat.lt_of_lt_of_le tp.1 le) (Nat.lt_of_lt_of_le tp.2 le)
    have tt := two_tok p.1 p.2
    have rt := ratio_text_ok tp s1
    rw [← hw] at rt
    have nn : opNotN s1 (rat p) .non = some (.bl true) := rfl
    clear le
    generalize tupleText [(toString p.1 : Str), (toString p.2 : Str)] = T at *
    exact if_no (tor_f (tval_ok (e2_ok (built_ok (one_ok (call1 (var_ok rfl) r1)) o) (built_ok (one_ok (var_ok rfl)) o) (ne_self s1 tt.shp rfl))) (tand_t (tval_ok (e2_ok (var_ok rfl) rfl nn)) (tval_ok (e2_ok (call1 (var_ok rfl) rt) (var_ok rfl) (ne_self s1 hW.1.shp rfl)))))
theorem b1_for {ns : List Int} (hns : ∀ z ∈ ns, z.natAbs.log2 ≤ 1048576) (s o b g : Option D) (u : List (Option D)) : ∀ (ds : List D) (B : Nat) (st : Sto) (t w d : Option D), Pen ns B st → B + 6 * ds.length < 3000 →
    ∃ (t' w' d' : Option D) (st' : Sto), forL (.nm 2) b_law_1b ds (LG s t w d o b g u) st = .nx (LG s t' w' d' o b g u) st' ∧ Pen ns (B + 6 * ds.length) st' := by
  intro ds
  induction ds with
  | nil => intro B st t w d h _; exact ⟨_, _, _, st, forL_nil, h⟩
  | cons x ds ih =>
    intro B st t w d h hB
    simp only [List.length_cons] at hB
    obtain ⟨w1, d1, s1, e1, h1⟩ := b1_ok hns h (by omega) s (some x) w d o b g u
    obtain ⟨t2, w2, d2, s2, e2, h2⟩ := ih (B + 6) s1 (some x) w1 d1 h1 (by omega)
    exact ⟨_, _, _, s2, forL_nx rfl e1 e2, h2.mono (by simp only [List.length_cons]; omega)⟩
/-! ### what is no word, no ratio -/
theorem is_str : isiB "str" "str" = some true := by decide +kernel
theorem isi_f (a b : String) : isiB a b = isiB a b := rfl
theorem no_str : ∀ d ∈ [D.non, .int 5, .bl true, .tup [.int 1, .int 2], .lst [.str "1"], .bl false, .dic, .tup [.str "1"]], ∀ st, opIsi subX st [d, .ty "str"] = some (.bl false) := by
  have h1 : isiB "NoneType" "str" = some false := by decide +kernel
  have h2 : isiB "int" "str" = some false := by decide +kernel
  have h3 : isiB "bool" "str" = some false := by decide +kernel
  have h4 : isiB "tuple" "str" = some false := by decide +kernel
  have h5 : isiB "list" "str" = some false := by decide +kernel
  have h6 : isiB "dict" "str" = some false := by decide +kernel
  intro d hd st
  simp only [List.mem_cons, List.not_mem_nil, or_false] at hd
  rcases hd with rfl | rfl | rfl | rfl | rfl | rfl | rfl | rfl <;> simp [h1, h2, h3, h4, h5, h6]
theorem read_no {d : D} {st : Sto} (h : opIsi subX st [d, .ty "str"] = some (.bl false)) : f_read_ratio [d] st = .ok .non st := by
  refine body_rt ?_
  rw [b_read_ratio_eq]
  exact seq_rt (if_t (tnot_ok (tval_ok (built_ok (two_ok (var_ok rfl) rfl) h))) (ret_ok rfl))
abbrev oddL : List D := [D.non, .int 5, .bl true, .tup [.int 1, .int 2], .lst [.str "1"], .bl false, .dic, .tup [.str "1"]]
theorem b2_ok (s t w d o b g : Option D) (u : List (Option D)) (st : Sto) : b_law_2 (LG s t w d o b g u) st = .nx (LG s t w d (some (.lst oddL)) b g u) st :=
  set_ok (lst_ok (cons_ok rfl (cons_ok rfl (cons_ok rfl (cons_ok (tup_ok (two_ok rfl rfl) (by decide)) (cons_ok (lst_ok (one_ok rfl) (by decide)) (cons_ok rfl (two_ok rfl (tup_ok (one_ok rfl) (by decide))))))))) (by decide))
theorem b3_ok (s t w d b g : Option D) (x8 x9 x10 x11 x12 x13 x14 x15 : Option D) (st : Sto) : b_law_3 (LG s t w d (some (.lst oddL)) b g [x8, x9, x10, x11, x12, x13, x14, x15]) st = .nx (LG s t w d (some (.lst oddL)) b g [x8, x9, x10, x11, x12, x13, x14, x15]) st := by
  refine if_no (tval_ok (e2_ok (cmp_ok (any_ok (var_ok rfl)) (by decide) (comp_none oddL fun v hv => ⟨_, rfl, ?_⟩)) (lst_ok nil_ok (by decide)) (ne_nil st)))
  have r := read_no (no_str v hv st)
  exact tval_ok (e2_ok (call1 (var_ok rfl) r) rfl rfl)
abbrev badL : List D := [.non, .int 1, .str "1/2", .tup [], .tup [.int 1], .lst [.int 1, .int 2], .tup [.int 1, .int 2, .int 3], .tup [.bl true, .int 1], .tup [.int 1, .bl true], .tup [.int 1, .int 0], .tup [.int 1, .int (-1)], .tup [.int 2, .int 4], .tup [.int 0, .int 2], .tup [.str "1", .int 2], .tup [.int 1, .non], .dic, .tup [.tup [.int 1, .int 1], .int 1]]
theorem bad_no : ∀ d ∈ badL, ∀ st, f_is_ratio [d] st = .ok (.bl false) st := by
  have h1 : isiB "NoneType" "tuple" = some false := by decide +kernel
  have h2 : isiB "int" "tuple" = some false := by decide +kernel
  have h4 : isiB "str" "tuple" = some false := by decide +kernel
  have h5 : isiB "list" "tuple" = some false := by decide +kernel
  have h6 : isiB "dict" "tuple" = some false := by decide +kernel
  intro d hd st
  simp only [List.mem_cons, List.not_mem_nil, or_false] at hd
  rcases hd with rfl | rfl | rfl | rfl | rfl | rfl | rfl | rfl | rfl | rfl | rfl | rfl | rfl | rfl | rfl | rfl | rfl <;> unfold f_is_ratio b_is_ratio <;> simp [h1, h2, h4, h5, h6, tt, isint_int, isint_bl, isint_str, isint_tup, isint_non]
theorem b4_ok (s t w d o b g : Option D) (u : List (Option D)) (st : Sto) : b_law_4 (LG s t w d o b g u) st = .nx (LG s t w d o (some (.lst badL)) g u) st := by
  have t2 : ∀ (a c : D) (fa fc : EF) (γ : Gam), fa γ st = .ok a st → fc γ st = .ok c st → eTup (aCons fa (aCons fc aNil)) γ st = .ok (.tup [a, c]) st := fun a c fa fc γ h1 h2 => tup_ok (two_ok h1 h2) (by simp)
  exact set_ok (lst_ok (cons_ok rfl (cons_ok rfl (cons_ok rfl (cons_ok (tup_ok nil_ok (by decide)) (cons_ok (tup_ok (one_ok rfl) (by decide)) (cons_ok (lst_ok (two_ok rfl rfl) (by decide)) (cons_ok (tup_ok (FL.three_ok rfl rfl rfl) (by decide))
    (cons_ok (t2 _ _ _ _ _ rfl rfl) (cons_ok (t2 _ _ _ _ _ rfl rfl) (cons_ok (t2 _ _ _ _ _ rfl rfl) (cons_ok (t2 _ _ _ _ _ rfl (neg_ok rfl)) (cons_ok (t2 _ _ _ _ _ rfl rfl) (cons_ok (t2 _ _ _ _ _ rfl rfl) (cons_ok (t2 _ _ _ _ _ rfl rfl) (cons_ok (t2 _ _ _ _ _ rfl rfl) (two_ok rfl (t2 _ _ _ _ _ (t2 _ _ _ _ _ rfl rfl) rfl))))))))))))))))) (by decide))
def goodL : List (Int × Int) := [(0, 1), (-3, 2), (7, 1), (10 ^ 30, 10 ^ 30 + 1), (-1, 10 ^ 50)]
theorem goodL_can : ∀ p ∈ goodL, Can p := by
  intro p hp
  simp only [goodL, List.mem_cons, List.not_mem_nil, or_false] at hp
  rcases hp with rfl | rfl | rfl | rfl | rfl <;> exact ⟨by decide, by decide +kernel⟩
theorem b5_ok (s t w d o b g : Option D) (u : List (Option D)) (st : Sto) : b_law_5 (LG s t w d o b g u) st = .nx (LG s t w d o b (some (.lst (goodL.map rat))) u) st := by
  have t2 : ∀ (a c : Int) (fa fc : EF) (γ : Gam), fa γ st = .ok (.int a) st → fc γ st = .ok (.int c) st → eTup (aCons fa (aCons fc aNil)) γ st = .ok (rat (a, c)) st := fun a c fa fc γ h1 h2 => tup_ok (two_ok h1 h2) (by simp)
  have p30 : opPow st (.int 10) (.int 30) = some (.int (10 ^ 30)) := by simp
  have p50 : opPow st (.int 10) (.int 50) = some (.int (10 ^ 50)) := by simp
  exact set_ok (lst_ok (cons_ok (t2 _ _ _ _ _ rfl rfl) (cons_ok (t2 _ _ _ _ _ (neg_ok rfl) rfl) (cons_ok (t2 _ _ _ _ _ rfl rfl) (two_ok (t2 _ _ _ _ _ (e2_ok rfl rfl p30) (add_ok (e2_ok rfl rfl p30) rfl)) (t2 _ _ _ _ _ (neg_ok rfl) (e2_ok rfl rfl p50)))))) (by simp [goodL]))
theorem b6_ok (s t w d o : Option D) (x8 x9 x10 x11 x12 x13 x14 x15 : Option D) (st : Sto) : b_law_6 (LG s t w d o (some (.lst badL)) (some (.lst (goodL.map rat))) [x8, x9, x10, x11, x12, x13, x14, x15]) st = .nx (LG s t w d o (some (.lst badL)) (some (.lst (goodL.map rat))) [x8, x9, x10, x11, x12, x13, x14, x15]) st := by
  refine if_no (tor_f (tval_ok (e2_ok (cmp_ok (any_ok (var_ok rfl)) (by decide) (comp_none badL fun v hv => ⟨_, rfl, ?_⟩)) (lst_ok nil_ok (by decide)) (ne_nil st))) (tval_ok (e2_ok (cmp_ok (any_ok (var_ok rfl)) (by simp [goodL]) (comp_none (goodL.map rat) fun v hv => ⟨_, rfl, ?_⟩)) (lst_ok nil_ok (by decide)) (ne_nil st))))
  · exact tval_ok (e2_ok (call1 (var_ok rfl) (bad_no v hv st)) rfl rfl)
  · obtain ⟨p, hp, rfl⟩ := List.mem_map.mp hv
    exact tval_ok (e2_ok (callX_ok nil_ok (one_ok (var_ok rfl)) rfl rfl (is_ratio_ok (goodL_can p hp) st)) rfl rfl)
end K01
end
section
set_option Elab.async false
set_option linter.all false
set_option maxRecDepth 100000
set_option maxHeartbeats 1000000
open PySem PySem.Spec PyProof.Rows L2 LamX FL
namespace K01
open TL NumText
theorem Pen.more {ns : List Int} {B : Nat} {st st1 : Sto} (h : Pen ns B st) (m : More st st1) : Pen ns B st1 := by
  obtain ⟨k, r, rest, rfl, h1, h2⟩ := h
  obtain ⟨x, rfl⟩ := m
  exact ⟨k, r, rest ++ x, rfl, h1, h2⟩
/-! ### what is heard -/
theorem hx_misfit (d : D) (st : Sto) : hearX "Misfit" [d] st = .ok (.tup [.str "misfit", d]) st := by
  have h : xaX "Misfit" = [("part" : Str)] := by decide +kernel
  unfold hearX
  rw [if_neg (by decide +kernel), if_neg (by decide +kernel), if_neg (by decide +kernel), if_pos rfl]
  unfold partD
  simp [h, List.lookup]
theorem heard_ex {γ : Gam} {st st1 : Sto} {fE : EF} {c : Str} {fs : List D} {r : Res D} (h : fE γ st = .ex c fs st1) (k : hearX c fs st1 = r) : eHeard hF fE γ st = r := by
  show hF (fE γ) st = r
  unfold hF
  rw [h]
  exact k
abbrev mis : D := .tup [.str "misfit", .str "high"]
theorem mis_ne (st : Sto) : opNe st mis mis = some (.bl false) := by
  have a := fun k => (TOk.lit (s := "misfit")).shk k
  have b := fun k => (TOk.lit (s := "high")).shk k
  exact ne_self st (by simp [a, b]) rfl
theorem mis_eq (st : Sto) : opEq st mis mis = some (.bl true) := by
  have a := fun k => (TOk.lit (s := "misfit")).shk k
  have b := fun k => (TOk.lit (s := "high")).shk k
  exact eq_self' st (by simp [a, b]) rfl
/-! ### the loop of eight -/
def Dr (p : Int × Int) : Prop := Can p ∧ p.1.natAbs ≤ 700 ∧ p.2.natAbs ≤ 300
theorem Dr.ti {p : Int × Int} (h : Dr p) : Ti p := ⟨by have := h.2.1; omega, by have := h.2.2; omega⟩
theorem Dr.sz {p : Int × Int} (h : Dr p) : Sz p := h.ti.sz
theorem dr_can {a b : Int} (h : b ≠ 0) (ha : a.natAbs ≤ 700) (hb : b.natAbs ≤ 300) : Dr (can a b) := by
  obtain ⟨h1, h2, h3⟩ := can_ok a h
  exact ⟨h1, by omega, by omega⟩
abbrev G8 (pre : List (Option D)) (lo ot va : Option D) : Gam := pre ++ [lo, ot, va]
theorem drawnS {ns : List Int} (hns : ∀ z ∈ ns, z.natAbs.log2 ≤ 1048576) {B : Nat} {st : Sto} (h : Pen ns B st) (hB : B < 4000) {γ : Gam} (hγ : γ[1]? = some (some (.cell 0))) :
    ∃ (p : Int × Int) (st' : Sto), eCall 2 f_l_lowest (aCons (e2 opSub (eCall 2 f_l_draw (aCons (eVar 1) (aCons (eC (.int 60)) (aNil)))) (eC (.int 30))) (aCons (e2 opAdd (eC (.int 1)) (eCall 2 f_l_draw (aCons (eVar 1) (aCons (eC (.int 14)) (aNil))))) (aNil))) γ st = .ok (rat p) st' ∧ Dr p ∧ p.1.natAbs ≤ 30 ∧ p.2.natAbs ≤ 14 ∧ Pen ns (B + 2) st' := by
  obtain ⟨t, s1, q1, t0, t1, h1⟩ := draw_ok hns h (by omega) (many := 60) (by decide) (by decide)
  obtain ⟨b, s2, q2, b0, b1, h2⟩ := draw_ok hns h1 (by omega) (many := 14) (by decide) (by decide)
  have hb : (1 + b) ≠ 0 := by omega
  have lo := l_lowest_ok (t - 30) (1 + b) s2 hb (pw_le (k := 20) (by omega) (by decide)) (pw_le (k := 20) (by omega) (by decide))
  obtain ⟨c1, c2, c3⟩ := can_ok (t - 30) hb
  exact ⟨_, s2, call2 (sub_ok (call2 (var_ok hγ) rfl q1) rfl) (add_ok rfl (call2 (var_ok hγ) rfl q2)) lo, dr_can hb (by omega) (by omega), by omega, by omega, h2⟩
theorem b7_0 {ns : List Int} (hns : ∀ z ∈ ns, z.natAbs.log2 ≤ 1048576) {B : Nat} {st : Sto} (h : Pen ns B st) (hB : B < 3000) (s t w d o b g x8 x9 x10 x11 x12 x13 x14 x15 : Option D) :
    ∃ (p q : Int × Int) (st' : Sto), sSeq b_law_7b_0 (sSeq b_law_7b_1 sNil) (LG s t w d o b g [x8, x9, x10, x11, x12, x13, x14, x15]) st = .nx (LG s t w d o b g [x8, x9, x10, x11, x12, some (rat p), some (rat q), x15]) st' ∧ Dr p ∧ Dr q ∧ Pen ns (B + 5) st' := by
  obtain ⟨p, s1, q1, hp, p1, p2, h1⟩ := drawnS hns h (by omega) (γ := LG s t w d o b g [x8, x9, x10, x11, x12, x13, x14, x15]) rfl
  obtain ⟨c, s2, q2, c0, c1, h2⟩ := draw_ok hns h1 (by omega) (many := 2) (by decide) (by decide)
  have tq := tval_ok (eqi_ok (a := eCall 2 f_l_draw (aCons (eVar 1) (aCons (eC (.int 2)) aNil))) (b := eC (.int 0)) (γ := LG s t w d o b g [x8, x9, x10, x11, x12, some (rat p), x14, x15]) (call2 (var_ok rfl) rfl q2) rfl)
  have q0 : b_law_7b_0 (LG s t w d o b g [x8, x9, x10, x11, x12, x13, x14, x15]) st = .nx (LG s t w d o b g [x8, x9, x10, x11, x12, some (rat p), x14, x15]) s1 := set_ok q1
  by_cases hc : c = 0
  · rw [decide_eq_true hc] at tq
    obtain ⟨z, s3, q3, m3, h3⟩ := pick_ok hns h2 (by omega) (xs := [D.int 1, .int 1, .int 3, .int 20, .int 70]) (by simp) (by decide)
    have key : ∃ k : Int, z = .int k ∧ k.natAbs ≤ 70 := by
      simp only [List.mem_cons, List.not_mem_nil, or_false] at m3
      rcases m3 with rfl | rfl | rfl | rfl | rfl <;> exact ⟨_, rfl, by decide⟩
    obtain ⟨k, rfl, hk⟩ := key
    have hb : p.2 * 20 ≠ 0 := by have := hp.1.1; omega
    have g1 := mgd (i := p.1) (j := 20) (k := 20) (l := 20) (by omega) (by decide) (by decide)
    have g2 := mgd (i := p.2) (j := 20) (k := 20) (l := 20) (by omega) (by decide) (by decide)
    have lo := l_lowest_ok (p.1 * 20 + k) (p.2 * 20) s3 hb (pw_le (k := 20) (by omega) (by decide)) (pw_le (k := 20) (by omega) (by decide))
    exact ⟨p, _, s3, seq_to q0 (seq_to (set_ok (eif_t tq (call2 (add_ok (mul_ok (at0 rfl) rfl g1) (call2 (var_ok rfl) (lst_ok (cons_ok rfl (cons_ok rfl (cons_ok rfl (two_ok rfl rfl)))) (by decide)) q3)) (mul_ok (at1 rfl) rfl g2) lo))) rfl), hp, dr_can hb (by omega) (by omega), h3.mono (by omega)⟩
  · rw [decide_eq_false hc] at tq
    obtain ⟨q, s3, q3, hq, _, _, h3⟩ := drawnS hns h2 (by omega) (γ := LG s t w d o b g [x8, x9, x10, x11, x12, some (rat p), x14, x15]) rfl
    exact ⟨p, q, s3, seq_to q0 (seq_to (set_ok (eif_f tq q3)) rfl), hp, hq, h3.mono (by omega)⟩
theorem two_rats (s : Int × Int) (st : Sto) : e2 opMul (eLst (aCons (eC (rat s)) aNil)) (eC (.int 2)) [] st = .ok (.lst [rat s, rat s]) st := by
  exact e2_ok (lst_ok (one_ok rfl) (by simp)) rfl rfl
theorem spec_eq {p q s r : Int × Int} (hp : 0 < p.2) (hq : 0 < q.2) (h : SPEC p q s) (k : SPEC p q r) : s = r := by
  obtain ⟨s0, s1, s2⟩ := h.some hp hq
  obtain ⟨r0, r1, r2⟩ := k.some hp hq
  have e : s.2 = r.2 := by
    by_cases c1 : s.2 < r.2
    · exact absurd s1 (k.none hp hq s0 c1)
    · by_cases c2 : r.2 < s.2
      · exact absurd r1 (h.none hp hq r0 c2)
      · omega
  have e1 : s.1 = r.1 := by rw [← s2, ← r2, e]
  exact Prod.ext e1 e
theorem b7_3 {p q : Int × Int} (hp : Dr p) (hq : Dr q) (hle : p.1 * q.2 ≤ q.1 * p.2) (s t w d o b g x8 x9 x10 x11 x12 x15 : Option D) (st : Sto) :
    ∃ st', b_law_7b_3 (LG s t w d o b g [x8, x9, x10, x11, x12, some (rat p), some (rat q), x15]) st = .nx (LG s t w d o b g [x8, x9, x10, x11, x12, some (rat p), some (rat q), x15]) st' ∧ More st st' := by
  have ne := ne_rat p q st
  by_cases e : p = q
  · rw [decide_eq_true e] at ne
    exact ⟨st, if_no (tand_f (tval_ok (e2_ok (var_ok rfl) (var_ok rfl) ne))), .refl st⟩
  · rw [decide_eq_false e] at ne
    have p0 := hp.1.1
    have q0 := hq.1.1
    have lt : p.1 * q.2 < q.1 * p.2 := by
      apply Decidable.byContradiction
      intro n
      have z : p.1 * q.2 = q.1 * p.2 := by omega
      have c1 : can (p.1 * q.2) (p.2 * q.2) = p := can_mul hp.1 (by omega)
      have c2 : can (q.1 * p.2) (q.2 * p.2) = q := can_mul hq.1 (by omega)
      exact e ((c1.symm.trans (by rw [z, Int.mul_comm p.2 q.2])).trans c2)
    obtain ⟨r1, s1, e1, k1, m1⟩ := simplest_ok hp.1 hq.1 hp.sz hq.sz lt st
    obtain ⟨r2, s2, f2, k2, m2⟩ := simplest_ok hp.1 hq.1 hp.sz hq.sz lt s1
    have er := spec_eq p0 q0 k2 k1
    subst er
    have hle2 := spec_le p0 q0 lt k1
    have n1 := hp.2.2
    have n2 := hq.2.2
    have ls := l_simplest_ok p0 q0 hp.ti hq.ti k1 hle2 (by omega) s2
    refine ⟨s2, if_no (tand_t (tval_ok (e2_ok (var_ok rfl) (var_ok rfl) ne)) (tval_ok (e2_ok (lst_ok (two_ok (call2 (var_ok rfl) (var_ok rfl) e1) (callX_ok nil_ok (two_ok (var_ok rfl) (var_ok rfl)) rfl rfl f2)) (by simp)) (e2_ok (lst_ok (one_ok (call_ok (FL.three_ok (var_ok rfl) (var_ok rfl) (add_ok (at1 rfl) (at1 rfl))) rfl ls)) (by simp)) rfl rfl) (ne_rats [_, _] s2)))), ?_⟩
    obtain ⟨a, rfl⟩ := m1
    obtain ⟨b, rfl⟩ := m2
    exact ⟨a ++ b, by rw [List.append_assoc]⟩
theorem b7_ok {ns : List Int} (hns : ∀ z ∈ ns, z.natAbs.log2 ≤ 1048576) {B : Nat} {st : Sto} (h : Pen ns B st) (hB : B < 3000) (s t w d o b g x8 x9 x10 x11 x12 x13 x14 x15 : Option D) :
    ∃ (y13 y14 : Option D) (st' : Sto), b_law_7b (LG s t w d o b g [x8, x9, x10, x11, x12, x13, x14, x15]) st = .nx (LG s t w d o b g [x8, x9, x10, x11, x12, y13, y14, x15]) st' ∧ Pen ns (B + 5) st' := by
  obtain ⟨p, q, s1, q1, hp, hq, h1⟩ := b7_0 hns h hB s t w d o b g x8 x9 x10 x11 x12 x13 x14 x15
  have split3 : ∀ (a b c : SF) (γ γ1 : Gam) (st st1 : Sto) (x : Fl), sSeq a (sSeq b sNil) γ st = .nx γ1 st1 → c γ1 st1 = x → sSeq a (sSeq b c) γ st = x := by
    intro a b c γ γ1 st st1 x e1 e2
    simp only [sSeq] at e1 ⊢
    cases ha : a γ st with
    | nx γ2 st2 =>
      rw [ha] at e1
      dsimp only at e1 ⊢
      cases hb : b γ2 st2 with
      | nx γ3 st3 =>
        rw [hb] at e1
        simp only [sNil] at e1
        cases e1
        exact e2
      | rt _ _ => rw [hb] at e1; cases e1
      | bk _ _ => rw [hb] at e1; cases e1
      | ct _ _ => rw [hb] at e1; cases e1
      | ex _ _ _ _ => rw [hb] at e1; cases e1
      | bad => rw [hb] at e1; cases e1
    | rt _ _ => rw [ha] at e1; cases e1
    | bk _ _ => rw [ha] at e1; cases e1
    | ct _ _ => rw [ha] at e1; cases e1
    | ex _ _ _ _ => rw [ha] at e1; cases e1
    | bad => rw [ha] at e1; cases e1
  obtain ⟨g1, g2, g3, g4⟩ := hp.sz.sm.m hq.sz.sm
  obtain ⟨k1, k2, k3, k4⟩ := hq.sz.sm.m hp.sz.sm
  have tg := tval_ok (ge_ok (γ := LG s t w d o b g [x8, x9, x10, x11, x12, some (rat p), some (rat q), x15]) (st := s1) (mul_ok (at0 (i := 13) rfl) (at1 (i := 14) rfl) g2) (mul_ok (at0 (i := 14) rfl) (at1 (i := 13) rfl) k2))
  by_cases hge : q.1 * p.2 ≤ p.1 * q.2
  · rw [decide_eq_true hge] at tg
    have bad := simplest_bad hp.sz hq.sz (show ltB p q = false from decide_eq_false (by omega)) s1
    obtain ⟨s2, e3, m⟩ := b7_3 hq hp hge s t w d o b g x8 x9 x10 x11 x12 x15 s1
    refine ⟨_, _, s2, split3 _ _ _ _ _ _ _ _ q1 (seq_to (if_t tg (seq_to (if_no (tval_ok (e2_ok (heard_ex (call2 (var_ok rfl) (var_ok rfl) bad) (hx_misfit _ _)) (tup_ok (two_ok rfl rfl) (by decide)) (mis_ne s1)))) (asg_ok (tup_ok (two_ok (var_ok rfl) (var_ok rfl)) (by simp)) rfl))) e3), h1.more m⟩
  · rw [decide_eq_false hge] at tg
    obtain ⟨s2, e3, m⟩ := b7_3 hp hq (by omega) s t w d o b g x8 x9 x10 x11 x12 x15 s1
    exact ⟨_, _, s2, split3 _ _ _ _ _ _ _ _ q1 (seq_to (if_no tg) e3), h1.more m⟩
theorem b7_for {ns : List Int} (hns : ∀ z ∈ ns, z.natAbs.log2 ≤ 1048576) (s w d o b g x8 x9 x10 x11 x12 x15 : Option D) : ∀ (ds : List D) (B : Nat) (st : Sto) (t x13 x14 : Option D), Pen ns B st → B + 5 * ds.length < 3000 →
    ∃ (t' y13 y14 : Option D) (st' : Sto), forL (.nm 2) b_law_7b ds (LG s t w d o b g [x8, x9, x10, x11, x12, x13, x14, x15]) st = .nx (LG s t' w d o b g [x8, x9, x10, x11, x12, y13, y14, x15]) st' ∧ Pen ns (B + 5 * ds.length) st' := by
  intro ds
  induction ds with
  | nil => intro B st t x13 x14 h _; exact ⟨_, _, _, st, forL_nil, h⟩
  | cons x ds ih =>
    intro B st t x13 x14 h hB
    simp only [List.length_cons] at hB
    obtain ⟨a1, a2, s1, e1, h1⟩ := b7_ok hns h (by omega) s (some x) w d o b g x8 x9 x10 x11 x12 x13 x14 x15
    obtain ⟨t2, c1, c2, s2, f2, h2⟩ := ih (B + 5) s1 (some x) a1 a2 h1 (by omega)
    exact ⟨_, _, _, s2, forL_nx rfl e1 f2, h2.mono (by simp only [List.length_cons]; omega)⟩
end K01
end
section
set_option Elab.async false
set_option linter.all false
set_option maxRecDepth 100000
set_option maxHeartbeats 1000000
open PySem PySem.Spec PyProof.Rows L2 LamX FL
namespace K01
open TL NumText
/-! ### neighbors -/
structure Nb (m : Nat) (l r : Int × Int) : Prop where
  det : r.1 * l.2 - l.1 * r.2 = 1
  l2 : 0 < l.2
  r2 : 0 < r.2
  sg : (0 ≤ l.1 ∧ 0 < r.1) ∨ (l.1 < 0 ∧ r.1 ≤ 0)
  sl : l.1.natAbs < 2 ^ m ∧ l.2.natAbs < 2 ^ m
  sr : r.1.natAbs < 2 ^ m ∧ r.2.natAbs < 2 ^ m
theorem nb_can {a b c d : Int} (hb : 0 < b) (h : c * b - a * d = 1) : Can (a, b) := by
  refine ⟨hb, ?_⟩
  show Int.gcd a b = 1
  have d1 : (Int.gcd a b : Int) ∣ a := Int.gcd_dvd_left _ _
  have d2 : (Int.gcd a b : Int) ∣ b := Int.gcd_dvd_right _ _
  have d3 : (Int.gcd a b : Int) ∣ 1 := by
    rw [← h]
    exact Int.dvd_sub (Int.dvd_mul_of_dvd_right d2) (Int.dvd_mul_of_dvd_left d1)
  have := Int.eq_one_of_dvd_one (by omega) d3
  omega
theorem Nb.canl {m : Nat} {l r : Int × Int} (h : Nb m l r) : Can l := nb_can h.l2 h.det
theorem Nb.canr {m : Nat} {l r : Int × Int} (h : Nb m l r) : Can r := by
  have e : -l.1 * r.2 - -r.1 * l.2 = 1 := by
    have := h.det
    rw [Int.neg_mul, Int.neg_mul]
    omega
  have z := nb_can h.r2 e
  refine ⟨h.r2, ?_⟩
  have := z.2
  rw [Int.neg_gcd] at this
  exact this
theorem mulK {k a : Int} {m : Nat} (hk : 0 < k ∧ k.natAbs < 2 ^ 67) (ha : a.natAbs < 2 ^ m) : (k * a).natAbs < 2 ^ (m + 67) := by
  have := mulB hk.2 ha
  rw [Nat.add_comm] at this
  exact this
theorem addK {k a b : Int} {m : Nat} (hk : 0 < k ∧ k.natAbs < 2 ^ 67) (ha : a.natAbs < 2 ^ m) (hb : b.natAbs < 2 ^ m) : (b + k * a).natAbs < 2 ^ (m + 68) := addB (pw_le hb (by omega)) (mulK hk ha)
theorem Nb.left {m : Nat} {l r : Int × Int} (h : Nb m l r) {k : Int} (hk : 0 < k ∧ k.natAbs < 2 ^ 67) : Nb (m + 68) (l.1 + k * r.1, l.2 + k * r.2) r := by
  have e2 : 0 < k * r.2 := Int.mul_pos hk.1 h.r2
  refine ⟨?_, by have := h.l2; show 0 < l.2 + k * r.2; omega, h.r2, ?_, ⟨addK hk h.sr.1 h.sl.1, addK hk h.sr.2 h.sl.2⟩, ⟨pw_le h.sr.1 (by omega), pw_le h.sr.2 (by omega)⟩⟩
  · have : r.1 * (l.2 + k * r.2) - (l.1 + k * r.1) * r.2 = r.1 * l.2 - l.1 * r.2 := by grind
    show r.1 * (l.2 + k * r.2) - (l.1 + k * r.1) * r.2 = 1
    rw [this]
    exact h.det
  · rcases h.sg with ⟨a, b⟩ | ⟨a, b⟩
    · have := Int.mul_pos hk.1 b
      exact .inl ⟨by show 0 ≤ l.1 + k * r.1; omega, b⟩
    · have : k * r.1 ≤ k * 0 := Int.mul_le_mul_of_nonneg_left b (by omega)
      exact .inr ⟨by show l.1 + k * r.1 < 0; omega, b⟩
theorem Nb.right {m : Nat} {l r : Int × Int} (h : Nb m l r) {k : Int} (hk : 0 < k ∧ k.natAbs < 2 ^ 67) : Nb (m + 68) l (r.1 + k * l.1, r.2 + k * l.2) := by
  have e2 : 0 < k * l.2 := Int.mul_pos hk.1 h.l2
  refine ⟨?_, h.l2, by have := h.r2; show 0 < r.2 + k * l.2; omega, ?_, ⟨pw_le h.sl.1 (by omega), pw_le h.sl.2 (by omega)⟩, ⟨addK hk h.sl.1 h.sr.1, addK hk h.sl.2 h.sr.2⟩⟩
  · have : (r.1 + k * l.1) * l.2 - l.1 * (r.2 + k * l.2) = r.1 * l.2 - l.1 * r.2 := by grind
    show (r.1 + k * l.1) * l.2 - l.1 * (r.2 + k * l.2) = 1
    rw [this]
    exact h.det
  · rcases h.sg with ⟨a, b⟩ | ⟨a, b⟩
    · have := Int.mul_nonneg (Int.le_of_lt hk.1) a
      exact .inl ⟨a, by show 0 < r.1 + k * l.1; omega⟩
    · have : k * l.1 ≤ k * 0 := Int.mul_le_mul_of_nonneg_left (by omega) (by omega)
      exact .inr ⟨a, by show r.1 + k * l.1 ≤ 0; omega⟩
/-- the mediant is the simplest -/
theorem Nb.spec {m : Nat} {l r s : Int × Int} (h : Nb m l r) (k : SPEC l r s) : s = (l.1 + r.1, l.2 + r.2) := by
  have d := h.det
  rcases k with ⟨a1, a2, rfl⟩ | ⟨a1, a2⟩ | ⟨a1, a2, a3⟩
  · rcases h.sg with ⟨a, b⟩ | ⟨a, b⟩ <;> omega
  · rcases h.sg with ⟨a, b⟩ | ⟨a, b⟩
    · have z := smp_inj a2 (smp_near a h.l2 b h.r2 d)
      exact Prod.ext z.1 z.2
    · omega
  · have z := smp_inj a3 (smp_near (a := -r.1) (b := r.2) (c := -l.1) (d := l.2) (by omega) h.r2 (by omega) h.l2 (by
      rw [Int.neg_mul, Int.neg_mul]
      omega))
    exact Prod.ext (by show s.1 = l.1 + r.1; omega) (by show s.2 = l.2 + r.2; omega)
theorem Nb.lt {m : Nat} {l r : Int × Int} (h : Nb m l r) : l.1 * r.2 < r.1 * l.2 := by
  have := h.det
  omega
theorem lap_ok {ns : List Int} (hns : ∀ z ∈ ns, z.natAbs.log2 ≤ 1048576) {B : Nat} {st : Sto} (h : Pen ns B st) (hB : B < 4000) {m : Nat} {l r : Int × Int} (hn : Nb m l r) (hm : m ≤ 900) (s t w d o b g x8 x11 x12 x13 x14 x15 : Option D) :
    ∃ (l' r' : Int × Int) (y12 : Option D) (st' : Sto), b_law_8b_2b (LG s t w d o b g [x8, some (rat l), some (rat r), x11, x12, x13, x14, x15]) st = .nx (LG s t w d o b g [x8, some (rat l'), some (rat r'), x11, y12, x13, x14, x15]) st' ∧ Nb (m + 68) l' r' ∧ Pen ns (B + 2) st' := by
  obtain ⟨z, s1, q1, m1, h1⟩ := pick_ok hns h (by omega) (xs := [D.int 1, .int 2, .int 3, .int 40, .int (10 ^ 6), .int (10 ^ 20 + 1)]) (by simp) (by simp)
  have key : ∃ k : Int, z = .int k ∧ 0 < k ∧ k.natAbs < 2 ^ 67 := by
    simp only [List.mem_cons, List.not_mem_nil, or_false] at m1
    rcases m1 with rfl | rfl | rfl | rfl | rfl | rfl <;> exact ⟨_, rfl, by decide, by decide⟩
  obtain ⟨k, rfl, hk⟩ := key
  obtain ⟨c, s2, q2, c0, c1, h2⟩ := draw_ok hns h1 (by omega) (many := 2) (by decide) (by decide)
  have p6 : opPow st (.int 10) (.int 6) = some (.int (10 ^ 6)) := by simp
  have p20 : opPow st (.int 10) (.int 20) = some (.int (10 ^ 20)) := by simp
  have e0 : b_law_8b_2b_0 (LG s t w d o b g [x8, some (rat l), some (rat r), x11, x12, x13, x14, x15]) st = .nx (LG s t w d o b g [x8, some (rat l), some (rat r), x11, some (.int k), x13, x14, x15]) s1 :=
    set_ok (call2 (var_ok rfl) (lst_ok (cons_ok rfl (cons_ok rfl (cons_ok rfl (cons_ok rfl (two_ok (e2_ok rfl rfl p6) (add_ok (e2_ok rfl rfl p20) rfl)))))) (by simp)) q1)
  have tq := tval_ok (eqi_ok (a := eCall 2 f_l_draw (aCons (eVar 1) (aCons (eC (.int 2)) aNil))) (b := eC (.int 0)) (γ := LG s t w d o b g [x8, some (rat l), some (rat r), x11, some (.int k), x13, x14, x15]) (call2 (var_ok rfl) rfl q2) rfl)
  have g1 := mgd hk.2 hn.sr.1 (show 67 + m < 134000000 by omega)
  have g2 := mgd hk.2 hn.sr.2 (show 67 + m < 134000000 by omega)
  have g3 := mgd hk.2 hn.sl.1 (show 67 + m < 134000000 by omega)
  have g4 := mgd hk.2 hn.sl.2 (show 67 + m < 134000000 by omega)
  by_cases hc : c = 0
  · rw [decide_eq_true hc] at tq
    exact ⟨(l.1 + k * r.1, l.2 + k * r.2), r, _, s2, seq_to e0 (if_t tq (set_ok (tup_ok (two_ok (add_ok (at0 (p := l) rfl) (mul_ok (var_ok rfl) (at0 (p := r) rfl) g1)) (add_ok (at1 (p := l) rfl) (mul_ok (var_ok rfl) (at1 (p := r) rfl) g2))) (by simp)))), hn.left hk, h2⟩
  · rw [decide_eq_false hc] at tq
    exact ⟨l, (r.1 + k * l.1, r.2 + k * l.2), _, s2, seq_to e0 (if_f tq (set_ok (tup_ok (two_ok (add_ok (at0 (p := r) rfl) (mul_ok (var_ok rfl) (at0 (p := l) rfl) g3)) (add_ok (at1 (p := r) rfl) (mul_ok (var_ok rfl) (at1 (p := l) rfl) g4))) (by simp)))), hn.right hk, h2⟩
theorem lap_for {ns : List Int} (hns : ∀ z ∈ ns, z.natAbs.log2 ≤ 1048576) (s t w d o b g x8 x13 x14 x15 : Option D) : ∀ (ds : List D) (B m : Nat) (l r : Int × Int) (st : Sto) (x11 x12 : Option D), Pen ns B st → B + 2 * ds.length < 4000 → Nb m l r → m + 68 * ds.length ≤ 900 →
    ∃ (l' r' : Int × Int) (y11 y12 : Option D) (st' : Sto), forL (.nm 11) b_law_8b_2b ds (LG s t w d o b g [x8, some (rat l), some (rat r), x11, x12, x13, x14, x15]) st = .nx (LG s t w d o b g [x8, some (rat l'), some (rat r'), y11, y12, x13, x14, x15]) st' ∧ Nb (m + 68 * ds.length) l' r' ∧ Pen ns (B + 2 * ds.length) st' := by
  intro ds
  induction ds with
  | nil => intro B m l r st x11 x12 h _ hn _; exact ⟨l, r, _, _, st, forL_nil, hn, h⟩
  | cons x ds ih =>
    intro B m l r st x11 x12 h hB hn hm
    simp only [List.length_cons] at hB hm
    obtain ⟨l1, r1, y12, s1, e1, n1, h1⟩ := lap_ok hns h (by omega) hn (by omega) s t w d o b g x8 (some x) x12 x13 x14 x15
    obtain ⟨l2, r2, z11, z12, s2, f2, n2, h2⟩ := ih (B + 2) (m + 68) l1 r1 s1 (some x) y12 h1 (by omega) n1 (by omega)
    refine ⟨l2, r2, z11, z12, s2, forL_nx rfl e1 f2, ?_, h2.mono (by simp only [List.length_cons]; omega)⟩
    simp only [List.length_cons]
    rw [show m + 68 * (ds.length + 1) = m + 68 + 68 * ds.length by omega]
    exact n2
theorem b8_ok {ns : List Int} (hns : ∀ z ∈ ns, z.natAbs.log2 ≤ 1048576) {B : Nat} {st : Sto} (h : Pen ns B st) (hB : B < 3900) (s t w d o b g x8 x9 x10 x11 x12 x13 x14 x15 : Option D) :
    ∃ (y8 y9 y10 y11 y12 : Option D) (st' : Sto), b_law_8b (LG s t w d o b g [x8, x9, x10, x11, x12, x13, x14, x15]) st = .nx (LG s t w d o b g [y8, y9, y10, y11, y12, x13, x14, x15]) st' ∧ Pen ns (B + 14) st' := by
  obtain ⟨v, s1, q1, v0, v1, h1⟩ := draw_ok hns h (by omega) (many := 9) (by decide) (by decide)
  have e0 : b_law_8b_0 (LG s t w d o b g [x8, x9, x10, x11, x12, x13, x14, x15]) st = .nx (LG s t w d o b g [some (.int (v - 4)), x9, x10, x11, x12, x13, x14, x15]) s1 := set_ok (sub_ok (call2 (var_ok rfl) rfl q1) rfl)
  have e1 : b_law_8b_1 (LG s t w d o b g [some (.int (v - 4)), x9, x10, x11, x12, x13, x14, x15]) s1 = .nx (LG s t w d o b g [some (.int (v - 4)), some (rat (v - 4, 1)), some (rat (v - 4 + 1, 1)), x11, x12, x13, x14, x15]) s1 :=
    par2_ok (two_ok (tup_ok (two_ok (var_ok rfl) rfl) (by simp)) (tup_ok (two_ok (add_ok (var_ok rfl) rfl) rfl) (by simp)))
  have n0 : Nb 4 (v - 4, 1) (v - 4 + 1, 1) := ⟨by show (v - 4 + 1) * 1 - (v - 4) * 1 = 1; omega, (show (0 : Int) < 1 by decide), (show (0 : Int) < 1 by decide), by show (0 ≤ v - 4 ∧ 0 < v - 4 + 1) ∨ (v - 4 < 0 ∧ v - 4 + 1 ≤ 0); omega, ⟨by show (v - 4).natAbs < 16; omega, (show (1 : Int).natAbs < 2 ^ 4 by decide)⟩, ⟨by show (v - 4 + 1).natAbs < 16; omega, (show (1 : Int).natAbs < 2 ^ 4 by decide)⟩⟩
  obtain ⟨c, s2, q2, c0, c1, h2⟩ := draw_ok hns h1 (by omega) (many := 6) (by decide) (by decide)
  have hlen : (rangeD 0 (1 + c).toNat).length = (1 + c).toNat := by simp [rangeD]
  obtain ⟨l, r, y11, y12, s3, f3, hn, h3⟩ := lap_for hns s t w d o b g (some (.int (v - 4))) x13 x14 x15 (rangeD 0 (1 + c).toNat) (B + 2) 4 _ _ s2 x11 x12 h2 (by rw [hlen]; omega) n0 (by rw [hlen]; omega)
  rw [hlen] at hn h3
  have e2' : b_law_8b_2 (LG s t w d o b g [some (.int (v - 4)), some (rat (v - 4, 1)), some (rat (v - 4 + 1, 1)), x11, x12, x13, x14, x15]) s1 = .nx (LG s t w d o b g [some (.int (v - 4)), some (rat l), some (rat r), y11, y12, x13, x14, x15]) s3 :=
    for_ok (rng_to (add_ok rfl (call2 (var_ok rfl) rfl q2)) (by omega) (by omega)) f3
  have sz : 4 + 68 * (1 + c).toNat ≤ 1000 := by omega
  have hl : Sz l := ⟨pw_le hn.sl.1 sz, pw_le hn.sl.2 sz⟩
  have hr : Sz r := ⟨pw_le hn.sr.1 sz, pw_le hn.sr.2 sz⟩
  obtain ⟨k, s4, f4, hS, m4⟩ := simplest_ok hn.canl hn.canr hl hr hn.lt s3
  have ek := hn.spec hS
  subst ek
  have ne := ne_rat (l.1 + r.1, l.2 + r.2) (l.1 + r.1, l.2 + r.2) s4
  rw [decide_eq_true rfl] at ne
  have e3 : b_law_8b_3 (LG s t w d o b g [some (.int (v - 4)), some (rat l), some (rat r), y11, y12, x13, x14, x15]) s3 = .nx (LG s t w d o b g [some (.int (v - 4)), some (rat l), some (rat r), y11, y12, x13, x14, x15]) s4 :=
    if_no (tval_ok (e2_ok (call2 (var_ok rfl) (var_ok rfl) f4) (tup_ok (two_ok (add_ok (at0 (p := l) rfl) (at0 (p := r) rfl)) (add_ok (at1 (p := l) rfl) (at1 (p := r) rfl))) (by simp)) ne))
  exact ⟨_, _, _, _, _, s4, seq_to e0 (seq_to e1 (seq_to e2' e3)), (h3.more m4).mono (by omega)⟩
theorem b8_for {ns : List Int} (hns : ∀ z ∈ ns, z.natAbs.log2 ≤ 1048576) (s w d o b g x13 x14 x15 : Option D) : ∀ (ds : List D) (B : Nat) (st : Sto) (t x8 x9 x10 x11 x12 : Option D), Pen ns B st → B + 14 * ds.length < 3900 →
    ∃ (t' y8 y9 y10 y11 y12 : Option D) (st' : Sto), forL (.nm 2) b_law_8b ds (LG s t w d o b g [x8, x9, x10, x11, x12, x13, x14, x15]) st = .nx (LG s t' w d o b g [y8, y9, y10, y11, y12, x13, x14, x15]) st' ∧ Pen ns (B + 14 * ds.length) st' := by
  intro ds
  induction ds with
  | nil => intro B st t x8 x9 x10 x11 x12 h _; exact ⟨_, _, _, _, _, _, st, forL_nil, h⟩
  | cons x ds ih =>
    intro B st t x8 x9 x10 x11 x12 h hB
    simp only [List.length_cons] at hB
    obtain ⟨a1, a2, a3, a4, a5, s1, e1, h1⟩ := b8_ok hns h (by omega) s (some x) w d o b g x8 x9 x10 x11 x12 x13 x14 x15
    obtain ⟨t2, c1, c2, c3, c4, c5, s2, f2, h2⟩ := ih (B + 14) s1 (some x) a1 a2 a3 a4 a5 h1 (by omega)
    exact ⟨_, _, _, _, _, _, s2, forL_nx rfl e1 f2, h2.mono (by simp only [List.length_cons]; omega)⟩
theorem b9_ok (γ : Gam) (st : Sto) : b_law_9 γ st = .rt (.bl true) st := by
  have sz : Sz (1, 2) := ⟨Nat.lt_of_lt_of_le (show 1 < 2 ^ 2 by decide) (Nat.pow_le_pow_right (by decide) (by decide)), Nat.lt_of_lt_of_le (show 2 < 2 ^ 2 by decide) (Nat.pow_le_pow_right (by decide) (by decide))⟩
  have bad := simplest_bad sz sz (show ltB (1, 2) (1, 2) = false by decide) st
  exact ret_ok (e2_ok (heard_ex (call2 (tup_ok (two_ok rfl rfl) (by decide)) (tup_ok (two_ok rfl rfl) (by decide)) bad) (hx_misfit _ _)) (tup_ok (two_ok rfl rfl) (by decide)) (mis_eq st))
theorem plain (ns : List Int) (hl : ns.length ≤ 63) (hb : ∀ z ∈ ns, Builtin.Int.intBits z ≤ 1048576) : ∃ st, f_law [.ro (ns.map D.int)] [] = .ok (.bl true) st := by
  have hns : ∀ z ∈ ns, z.natAbs.log2 ≤ 1048576 := fun z hz => log2_bits (hb z hz)
  have h0 : Pen ns 0 (penS ns 0 0 []) := ⟨0, 0, [], rfl, by decide, by decide⟩
  have e0 : b_law_0 (startG 16 [.ro (ns.map D.int)]) [] = .nx (LG (some (.ro (ns.map D.int))) none none none none none none [none, none, none, none, none, none, none, none]) (penS ns 0 0 []) := set_ok (call1 (var_ok rfl) (pen_ok ns hl))
  obtain ⟨t1, w1, d1, s1, f1, h1⟩ := b1_for hns (some (.ro (ns.map D.int))) none none none [none, none, none, none, none, none, none, none] (rangeD 0 (25 : Int).toNat) 0 _ none none none h0 (by decide)
  have e2' := b2_ok (some (.ro (ns.map D.int))) t1 w1 d1 none none none [none, none, none, none, none, none, none, none] s1
  have e3 := b3_ok (some (.ro (ns.map D.int))) t1 w1 d1 none none none none none none none none none none s1
  have e4 := b4_ok (some (.ro (ns.map D.int))) t1 w1 d1 (some (.lst oddL)) none none [none, none, none, none, none, none, none, none] s1
  have e5 := b5_ok (some (.ro (ns.map D.int))) t1 w1 d1 (some (.lst oddL)) (some (.lst badL)) none [none, none, none, none, none, none, none, none] s1
  have e6 := b6_ok (some (.ro (ns.map D.int))) t1 w1 d1 (some (.lst oddL)) none none none none none none none none s1
  obtain ⟨t7, y13, y14, s7, f7, h7⟩ := b7_for hns (some (.ro (ns.map D.int))) w1 d1 (some (.lst oddL)) (some (.lst badL)) (some (.lst (goodL.map rat))) none none none none none none (rangeD 0 (8 : Int).toNat) _ s1 t1 none none h1 (by decide)
  obtain ⟨t8, y8, y9, y10, y11, y12, s8, f8, h8⟩ := b8_for hns (some (.ro (ns.map D.int))) w1 d1 (some (.lst oddL)) (some (.lst badL)) (some (.lst (goodL.map rat))) y13 y14 none (rangeD 0 (4 : Int).toNat) _ s7 t7 none none none none none h7 (by decide)
  refine ⟨s8, body_rt ?_⟩
  rw [b_law_eq]
  exact seq_to e0 (seq_to (for_ok (rng_to (n := 25) rfl (by decide) (by decide)) f1) (seq_to e2' (seq_to e3 (seq_to e4 (seq_to e5 (seq_to e6 (seq_to (for_ok (rng_to (n := 8) rfl (by decide) (by decide)) f7) (seq_to (for_ok (rng_to (n := 4) rfl (by decide) (by decide)) f8) (b9_ok _ s8)))))))))
end K01
end
open PySem PySem.W PyProof.Rows
set_option Elab.async false
set_option maxRecDepth 100000 in
set_option maxHeartbeats 0 in
theorem PySem.Challenge.cw_whicheverworld_k01_words_of_ratios_and_s_holds : PySem.Challenge.rw_whicheverworld_k01_words_of_ratios_and_s.Holds := by
  w_on; o_law; k_head; (case hw => w_witness2)
  k_fill
  refine FL.walk_law (l := PySem.Challenge.rw_whicheverworld_k01_words_of_ratios_and_s) (n := 63) (k := 7) (x := "script") rfl (by decide) rfl ⟨by decide, by decide, by decide⟩ (fun w h Y => by first | exact PySem.W.km_in_of Y | exact PySem.W.kIn_of Y) ?F
  case F =>
    intro w mg fa h Y KX G hmg tabs
    refine' K01.done KX G hmg K01.plain ?na_is_integer ?lo_is_integer ?co_is_integer ?kp_is_integer ?na_lowest ?lo_lowest ?co_lowest ?kp_lowest ?na_is_short ?lo_is_short ?co_is_short ?kp_is_short ?na_read_whole ?lo_read_whole ?co_read_whole ?kp_read_whole ?na_is_ratio ?lo_is_ratio ?co_is_ratio ?kp_is_ratio ?na_plus ?lo_plus ?co_plus ?kp_plus ?na_minus ?lo_minus ?co_minus ?kp_minus ?na_negated ?lo_negated ?co_negated ?kp_negated ?na_over ?lo_over ?co_over ?kp_over ?na_less ?lo_less ?co_less ?kp_less ?na_simplest_above ?lo_simplest_above ?co_simplest_above ?kp_simplest_above ?na_simplest ?lo_simplest ?co_simplest ?kp_simplest ?na_ratio_text ?lo_ratio_text ?co_ratio_text ?kp_ratio_text ?na_read_ratio ?lo_read_ratio ?co_read_ratio ?kp_read_ratio ?na_l_pen ?lo_l_pen ?co_l_pen ?kp_l_pen ?na_l_draw ?lo_l_draw ?co_l_draw ?kp_l_draw ?na_l_pick ?lo_l_pick ?co_l_pick ?kp_l_pick ?na_l_heard ?lo_l_heard ?co_l_heard ?kp_l_heard ?na_l_shared ?lo_l_shared ?co_l_shared ?kp_l_shared ?na_l_lowest ?lo_l_lowest ?co_l_lowest ?kp_l_lowest ?na_l_whole ?lo_l_whole ?co_l_whole ?kp_l_whole ?na_l_read ?lo_l_read ?co_l_read ?kp_l_read ?na_l_bent ?lo_l_bent ?co_l_bent ?kp_l_bent ?na_l_simplest ?lo_l_simplest ?co_l_simplest ?kp_l_simplest ?na_law ?lo_law ?co_law ?kp_law ?lc_law ?lp_law ?ln_law ?lt_law ?nk_FIGURES ?nk_MOST_FIGURES ?nk_ONE ?co_ONE ?nk_ZERO ?co_ZERO ?nz_abs ?nz_all ?nz_bool ?nz_int ?nz_isinstance ?nz_len ?nz_range ?nz_repr ?nz_str ?nz_tuple ?ng_gcd ?nc_BadNumber ?xb_BadNumber ?xt_BadNumber ?xh_BadNumber ?xc_BadNumber ?nc_BadValue ?xb_BadValue ?xt_BadValue ?xh_BadValue ?xc_BadValue ?nc_Misfit ?xb_Misfit ?xt_Misfit ?xh_Misfit ?xc_Misfit ?nc_Nothing ?xb_Nothing ?xt_Nothing ?xh_Nothing ?xc_Nothing ?nc_TooMany ?xb_TooMany ?xt_TooMany ?xh_TooMany ?xc_TooMany ?nc_WorldError ?xb_WorldError ?xt_WorldError ?xh_WorldError ?xc_WorldError ?ns_super ?ns_opq ?tm_super ?ob_n ?ob_t ?xl_BadNumber ?xr_BadNumber ?xs_BadNumber ?xg_BadNumber ?xG_BadNumber ?xk_BadNumber ?xo_BadNumber ?xv_BadNumber ?xp_BadNumber ?fi_BadNumber ?il_PartError ?ic_PartError ?ce_PartError ?it_PartError ?ik_PartError ?iv_PartError ?ip_PartError ?iy_PartError ?ij_PartError ?im_BadNumber ?iu_BadNumber ?no_BadNumber_part ?xl_BadValue ?xr_BadValue ?xs_BadValue ?xg_BadValue ?xG_BadValue ?xk_BadValue ?xo_BadValue ?xv_BadValue ?xp_BadValue ?fi_BadValue ?im_BadValue ?iu_BadValue ?no_BadValue_part ?xl_Misfit ?xr_Misfit ?xs_Misfit ?xg_Misfit ?xG_Misfit ?xk_Misfit ?xo_Misfit ?xv_Misfit ?xp_Misfit ?fi_Misfit ?im_Misfit ?iu_Misfit ?no_Misfit_part ?xl_Nothing ?xr_Nothing ?xs_Nothing ?xg_Nothing ?xG_Nothing ?xk_Nothing ?xo_Nothing ?xv_Nothing ?xp_Nothing ?fi_Nothing ?im_Nothing ?iu_Nothing ?no_Nothing_part ?xl_TooMany ?xr_TooMany ?xs_TooMany ?xg_TooMany ?xG_TooMany ?xk_TooMany ?xo_TooMany ?xv_TooMany ?xp_TooMany ?fi_TooMany ?il_TooMany ?ic_TooMany ?ce_TooMany ?it_TooMany ?ik_TooMany ?iv_TooMany ?ip_TooMany ?iy_TooMany ?ij_TooMany ?im_TooMany ?iu_TooMany ?no_TooMany_what ?no_TooMany_most ?sb_BadNumber_TooMany ?sb_BadNumber_BadNumber ?sb_BadNumber_BadValue ?sb_BadNumber_Misfit ?sb_BadNumber_Nothing ?sw_BadNumber ?sb_BadValue_TooMany ?sb_BadValue_BadNumber ?sb_BadValue_BadValue ?sb_BadValue_Misfit ?sb_BadValue_Nothing ?sw_BadValue ?sb_Misfit_TooMany ?sb_Misfit_BadNumber ?sb_Misfit_BadValue ?sb_Misfit_Misfit ?sb_Misfit_Nothing ?sw_Misfit ?sb_Nothing_TooMany ?sb_Nothing_BadNumber ?sb_Nothing_BadValue ?sb_Nothing_Misfit ?sb_Nothing_Nothing ?sw_Nothing ?sb_TooMany_TooMany ?sb_TooMany_BadNumber ?sb_TooMany_BadValue ?sb_TooMany_Misfit ?sb_TooMany_Nothing ?sw_TooMany ?ne_BadNumber_TooMany ?ne_BadNumber_BadValue ?ne_BadNumber_Misfit ?ne_BadNumber_Nothing ?ne_BadValue_TooMany ?ne_BadValue_BadNumber ?ne_BadValue_Misfit ?ne_BadValue_Nothing ?ne_Misfit_TooMany ?ne_Misfit_BadNumber ?ne_Misfit_BadValue ?ne_Misfit_Nothing ?ne_Nothing_TooMany ?ne_Nothing_BadNumber ?ne_Nothing_BadValue ?ne_Nothing_Misfit ?ne_TooMany_BadNumber ?ne_TooMany_BadValue ?ne_TooMany_Misfit ?ne_TooMany_Nothing ?Pne
    (case na_is_integer => k_is)
    (case lo_is_integer => k_is)
    (case co_is_integer => k_is)
    (case kp_is_integer => k_is)
    (case na_lowest => k_is)
    (case lo_lowest => k_is)
    (case co_lowest => k_is)
    (case kp_lowest => k_is)
    (case na_is_short => k_is)
    (case lo_is_short => k_is)
    (case co_is_short => k_is)
    (case kp_is_short => k_is)
    (case na_read_whole => k_is)
    (case lo_read_whole => k_is)
    (case co_read_whole => k_is)
    (case kp_read_whole => k_is)
    (case na_is_ratio => k_is)
    (case lo_is_ratio => k_is)
    (case co_is_ratio => k_is)
    (case kp_is_ratio => k_is)
    (case na_plus => k_is)
    (case lo_plus => k_is)
    (case co_plus => k_is)
    (case kp_plus => k_is)
    (case na_minus => k_is)
    (case lo_minus => k_is)
    (case co_minus => k_is)
    (case kp_minus => k_is)
    (case na_negated => k_is)
    (case lo_negated => k_is)
    (case co_negated => k_is)
    (case kp_negated => k_is)
    (case na_over => k_is)
    (case lo_over => k_is)
    (case co_over => k_is)
    (case kp_over => k_is)
    (case na_less => k_is)
    (case lo_less => k_is)
    (case co_less => k_is)
    (case kp_less => k_is)
    (case na_simplest_above => k_is)
    (case lo_simplest_above => k_is)
    (case co_simplest_above => k_is)
    (case kp_simplest_above => k_is)
    (case na_simplest => k_is)
    (case lo_simplest => k_is)
    (case co_simplest => k_is)
    (case kp_simplest => k_is)
    (case na_ratio_text => k_is)
    (case lo_ratio_text => k_is)
    (case co_ratio_text => k_is)
    (case kp_ratio_text => k_is)
    (case na_read_ratio => k_is)
    (case lo_read_ratio => k_is)
    (case co_read_ratio => k_is)
    (case kp_read_ratio => k_is)
    (case na_l_pen => k_is)
    (case lo_l_pen => k_is)
    (case co_l_pen => k_is)
    (case kp_l_pen => k_is)
    (case na_l_draw => k_is)
    (case lo_l_draw => k_is)
    (case co_l_draw => k_is)
    (case kp_l_draw => k_is)
    (case na_l_pick => k_is)
    (case lo_l_pick => k_is)
    (case co_l_pick => k_is)
    (case kp_l_pick => k_is)
    (case na_l_heard => k_is)
    (case lo_l_heard => k_is)
    (case co_l_heard => k_is)
    (case kp_l_heard => k_is)
    (case na_l_shared => k_is)
    (case lo_l_shared => k_is)
    (case co_l_shared => k_is)
    (case kp_l_shared => k_is)
    (case na_l_lowest => k_is)
    (case lo_l_lowest => k_is)
    (case co_l_lowest => k_is)
    (case kp_l_lowest => k_is)
    (case na_l_whole => k_is)
    (case lo_l_whole => k_is)
    (case co_l_whole => k_is)
    (case kp_l_whole => k_is)
    (case na_l_read => k_is)
    (case lo_l_read => k_is)
    (case co_l_read => k_is)
    (case kp_l_read => k_is)
    (case na_l_bent => k_is)
    (case lo_l_bent => k_is)
    (case co_l_bent => k_is)
    (case kp_l_bent => k_is)
    (case na_l_simplest => k_is)
    (case lo_l_simplest => k_is)
    (case co_l_simplest => k_is)
    (case kp_l_simplest => k_is)
    (case na_law => k_is)
    (case lo_law => k_is)
    (case co_law => k_is)
    (case kp_law => k_is)
    (case lc_law => k_is)
    (case lp_law => rfl)
    (case ln_law => rfl)
    (case lt_law => exact fun b hb => tabs _ b (by decide +kernel) hb)
    (case nk_FIGURES => k_is)
    (case nk_MOST_FIGURES => k_is)
    (case nk_ONE => k_is)
    (case co_ONE => k_is)
    (case nk_ZERO => k_is)
    (case co_ZERO => k_is)
    (case nz_abs => k_is)
    (case nz_all => k_is)
    (case nz_bool => k_is)
    (case nz_int => k_is)
    (case nz_isinstance => k_is)
    (case nz_len => k_is)
    (case nz_range => k_is)
    (case nz_repr => k_is)
    (case nz_str => k_is)
    (case nz_tuple => k_is)
    (case ng_gcd => k_is)
    (case nc_BadNumber => k_is)
    (case xb_BadNumber => k_is)
    (case xt_BadNumber => k_is)
    (case xh_BadNumber => k_is)
    (case xc_BadNumber => k_is)
    (case nc_BadValue => k_is)
    (case xb_BadValue => k_is)
    (case xt_BadValue => k_is)
    (case xh_BadValue => k_is)
    (case xc_BadValue => k_is)
    (case nc_Misfit => k_is)
    (case xb_Misfit => k_is)
    (case xt_Misfit => k_is)
    (case xh_Misfit => k_is)
    (case xc_Misfit => k_is)
    (case nc_Nothing => k_is)
    (case xb_Nothing => k_is)
    (case xt_Nothing => k_is)
    (case xh_Nothing => k_is)
    (case xc_Nothing => k_is)
    (case nc_TooMany => k_is)
    (case xb_TooMany => k_is)
    (case xt_TooMany => k_is)
    (case xh_TooMany => k_is)
    (case xc_TooMany => k_is)
    (case nc_WorldError => k_is)
    (case xb_WorldError => k_is)
    (case xt_WorldError => k_is)
    (case xh_WorldError => k_is)
    (case xc_WorldError => k_is)
    (case ns_super => k_is)
    (case ns_opq => k_is)
    (case tm_super => rfl)
    (case ob_n => k_is)
    (case ob_t => k_is)
    (case xl_BadNumber => k_is)
    (case xr_BadNumber => decide +kernel)
    (case xs_BadNumber => k_is)
    (case xg_BadNumber => k_is)
    (case xG_BadNumber => k_is)
    (case xk_BadNumber => k_is)
    (case xo_BadNumber => k_is)
    (case xv_BadNumber => k_is)
    (case xp_BadNumber => k_is)
    (case fi_BadNumber => k_is)
    (case il_PartError => k_is)
    (case ic_PartError => k_is)
    (case ce_PartError => exact ⟨_, fun L => rfl⟩)
    (case it_PartError => k_is)
    (case ik_PartError => k_is)
    (case iv_PartError => rfl)
    (case ip_PartError => decide +kernel)
    (case iy_PartError => k_is)
    (case ij_PartError => k_is)
    (case im_BadNumber => k_is)
    (case iu_BadNumber => ks_is)
    (case no_BadNumber_part => k_is)
    (case xl_BadValue => k_is)
    (case xr_BadValue => decide +kernel)
    (case xs_BadValue => k_is)
    (case xg_BadValue => k_is)
    (case xG_BadValue => k_is)
    (case xk_BadValue => k_is)
    (case xo_BadValue => k_is)
    (case xv_BadValue => k_is)
    (case xp_BadValue => k_is)
    (case fi_BadValue => k_is)
    (case im_BadValue => k_is)
    (case iu_BadValue => ks_is)
    (case no_BadValue_part => k_is)
    (case xl_Misfit => k_is)
    (case xr_Misfit => decide +kernel)
    (case xs_Misfit => k_is)
    (case xg_Misfit => k_is)
    (case xG_Misfit => k_is)
    (case xk_Misfit => k_is)
    (case xo_Misfit => k_is)
    (case xv_Misfit => k_is)
    (case xp_Misfit => k_is)
    (case fi_Misfit => k_is)
    (case im_Misfit => k_is)
    (case iu_Misfit => ks_is)
    (case no_Misfit_part => k_is)
    (case xl_Nothing => k_is)
    (case xr_Nothing => decide +kernel)
    (case xs_Nothing => k_is)
    (case xg_Nothing => k_is)
    (case xG_Nothing => k_is)
    (case xk_Nothing => k_is)
    (case xo_Nothing => k_is)
    (case xv_Nothing => k_is)
    (case xp_Nothing => k_is)
    (case fi_Nothing => k_is)
    (case im_Nothing => k_is)
    (case iu_Nothing => ks_is)
    (case no_Nothing_part => k_is)
    (case xl_TooMany => k_is)
    (case xr_TooMany => decide +kernel)
    (case xs_TooMany => k_is)
    (case xg_TooMany => k_is)
    (case xG_TooMany => k_is)
    (case xk_TooMany => k_is)
    (case xo_TooMany => k_is)
    (case xv_TooMany => k_is)
    (case xp_TooMany => k_is)
    (case fi_TooMany => k_is)
    (case il_TooMany => k_is)
    (case ic_TooMany => k_is)
    (case ce_TooMany => exact ⟨_, fun L => rfl⟩)
    (case it_TooMany => k_is)
    (case ik_TooMany => k_is)
    (case iv_TooMany => rfl)
    (case ip_TooMany => decide +kernel)
    (case iy_TooMany => k_is)
    (case ij_TooMany => k_is)
    (case im_TooMany => k_is)
    (case iu_TooMany => ks_is)
    (case no_TooMany_what => k_is)
    (case no_TooMany_most => k_is)
    (case sb_BadNumber_TooMany => k_is)
    (case sb_BadNumber_BadNumber => k_is)
    (case sb_BadNumber_BadValue => k_is)
    (case sb_BadNumber_Misfit => k_is)
    (case sb_BadNumber_Nothing => k_is)
    (case sw_BadNumber => k_is)
    (case sb_BadValue_TooMany => k_is)
    (case sb_BadValue_BadNumber => k_is)
    (case sb_BadValue_BadValue => k_is)
    (case sb_BadValue_Misfit => k_is)
    (case sb_BadValue_Nothing => k_is)
    (case sw_BadValue => k_is)
    (case sb_Misfit_TooMany => k_is)
    (case sb_Misfit_BadNumber => k_is)
    (case sb_Misfit_BadValue => k_is)
    (case sb_Misfit_Misfit => k_is)
    (case sb_Misfit_Nothing => k_is)
    (case sw_Misfit => k_is)
    (case sb_Nothing_TooMany => k_is)
    (case sb_Nothing_BadNumber => k_is)
    (case sb_Nothing_BadValue => k_is)
    (case sb_Nothing_Misfit => k_is)
    (case sb_Nothing_Nothing => k_is)
    (case sw_Nothing => k_is)
    (case sb_TooMany_TooMany => k_is)
    (case sb_TooMany_BadNumber => k_is)
    (case sb_TooMany_BadValue => k_is)
    (case sb_TooMany_Misfit => k_is)
    (case sb_TooMany_Nothing => k_is)
    (case sw_TooMany => k_is)
    (case ne_BadNumber_TooMany => decide)
    (case ne_BadNumber_BadValue => decide)
    (case ne_BadNumber_Misfit => decide)
    (case ne_BadNumber_Nothing => decide)
    (case ne_BadValue_TooMany => decide)
    (case ne_BadValue_BadNumber => decide)
    (case ne_BadValue_Misfit => decide)
    (case ne_BadValue_Nothing => decide)
    (case ne_Misfit_TooMany => decide)
    (case ne_Misfit_BadNumber => decide)
    (case ne_Misfit_BadValue => decide)
    (case ne_Misfit_Nothing => decide)
    (case ne_Nothing_TooMany => decide)
    (case ne_Nothing_BadNumber => decide)
    (case ne_Nothing_BadValue => decide)
    (case ne_Nothing_Misfit => decide)
    (case ne_TooMany_BadNumber => decide)
    (case ne_TooMany_BadValue => decide)
    (case ne_TooMany_Misfit => decide)
    (case ne_TooMany_Nothing => decide)
    (case Pne => decide)
