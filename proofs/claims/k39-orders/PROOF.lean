import PyProof.Rows.All
import Wide.All
import OpenK.AllK
import Wide.FinOn
import HandS.ForMost
import HandS.WordsExc
import HandS.Lambda
import HandS.CallSlots
import HandS.Flow
import HandS.TupAny
import HandS.Wide
import HandS.IsInst
import HandS.Style
import HandS.Zip
import HandS.ExcOwn
import HandS.Words
import HandS.Text
import KE.KExcSuper
import HandS.ExcValue
import HandS.ExcIs
import PyProof.ReprRoads
import PyProof.InstEq
import HandS.MakeKw
import HandS.EndTab
import HandS.EndOwn
import PyProof.SumWalkG
import KE.SortData
import KE.SortKeyHeap
import HandS.DictComp
import HandS.Deep
import KE.RegKIsAll
import KE.RegKSuper
import PySem.Challenge.RW_neverabove_k39_orders_told_and_refused
set_option Elab.async false
set_option linter.all false
set_option maxRecDepth 100000
set_option maxHeartbeats 1000000
/-! DL1: data without addresses (D), how a value stands for data (Rep), what a frame owns (Own), the state of a frame (SI). -/
namespace DL
open PySem L2

/-- data: values without addresses -/
inductive D where
  | non | bl (b : Bool) | int (i : Int) | str (x : Str)
  | tup (xs : List D) | lst (xs : List D) | dct (kvs : List (Key × D)) | dtt (kvs : List (List Key × D))
  | obj (c : Nat) (fs : List D)
  | scr (ns : List Int)
  | exc (c : Nat) (fs : List D)
  | thk (f : Addr) (H1 : Hp) (S1 : Addr → Prop)

/-- what is fixed through a law: the written part, where the classes stand -/
structure Ctx where
  K : PySem.W.Frag
  C : Nat → Addr
  /-- the fields' names, in the order in which they are stored -/
  F : Nat → List Str
  /-- the tables of code objects of those who make lambdas -/
  T : List (Addr × Str)

abbrev Sset := Addr → Prop

/-- a tuple of the written part -/
def KTup (K : PySem.W.Frag) (a : Addr) (xs : List V) : Prop :=
  ∃ (o : Obj) (its : Array Value) (n : Nat), K.lookup a = some o ∧ o.cls = .type "tuple" ∧ o.data = .seq its n ∧ its.size ≤ sizeLine ∧ Vals xs its.toList

/-- a list of the written part -/
def KLst (K : PySem.W.Frag) (a : Addr) (xs : List V) : Prop :=
  ∃ (o : Obj) (its : Array Value) (n : Nat), K.lookup a = some o ∧ o.cls = .type "list" ∧ o.dict = none ∧ o.data = .seq its n ∧ its.size ≤ sizeLine ∧ Vals xs its.toList
/-- an exception that is held as a value: its class, its dict -/
def ExD (cls : Value) (a dd : Addr) : HO := .ext fun h => ∃ (oe : Obj) (vs : Array Value), h.get? a = some oe ∧ oe.cls = cls ∧ oe.dict = some dd ∧ oe.data = .fields vs

/-- a text that can stand: not too long, of code points -/
def sOk (x : Str) : Prop := x.length ≤ sizeLine ∧ PyData.strOk x = true
instance (x : Str) : Decidable (sOk x) := inferInstanceAs (Decidable (_ ∧ _))
def keyOk : Key → Prop
  | .inl _ => True
  | .inr x => sOk x

/-- what is shared stays as it was -/
def Grow (S : Sset) (H : Hp) (S' : Sset) (H' : Hp) : Prop := ∀ a, S a → S' a ∧ H' a = H a
theorem Grow.rfl' {S : Sset} {H : Hp} : Grow S H S H := fun _ h => ⟨h, rfl⟩
theorem Grow.trans {S S1 S2 : Sset} {H H1 H2 : Hp} (a : Grow S H S1 H1) (b : Grow S1 H1 S2 H2) : Grow S H S2 H2 := fun c h =>
  let ⟨h1, e1⟩ := a c h; let ⟨h2, e2⟩ := b c h1; ⟨h2, e2.trans e1⟩

mutual
/-- v stands for d: all that is met lies in S, which nobody changes any more -/
inductive Rep (G : Ctx) (H : Hp) (S : Sset) : V → D → Prop
  | non : Rep G H S .non .non
  | bl {b} : Rep G H S (.bl b) (.bl b)
  | int {i} : Rep G H S (.int i) (.int i)
  | str {x} : sOk x → Rep G H S (.str x) (.str x)
  | tup {a vs ds} : S a → H a = some (.tup vs) → vs.length ≤ sizeLine → RepL G H S vs ds → Rep G H S (.ref a) (.tup ds)
  | ktup {a vs ds} : KTup G.K a vs → RepL G H S vs ds → Rep G H S (.ref a) (.tup ds)
  | lst {a vs ds} : S a → H a = some (.lst vs) → vs.length ≤ sizeLine → RepL G H S vs ds → Rep G H S (.ref a) (.lst ds)
  | dct {a vs ds} : S a → H a = some (.dK vs) → vs.length ≤ sizeLine → RepK G H S vs ds → Rep G H S (.ref a) (.dct ds)
  | dtt {a vs ds} : S a → H a = some (.dT vs) → vs.length ≤ sizeLine → RepT G H S vs ds → Rep G H S (.ref a) (.dtt ds)
  | obj {a c dx vs ds} : S a → H a = some (.ins (G.C c) dx ((G.F c).zip vs)) → vs.length ≤ (G.F c).length → RepL G H S vs ds → Rep G H S (.ref a) (.obj c ds)
  | scr {a o ns} : S a → H a = some (.frz o (.lst (ns.map V.int))) → ns.length ≤ sizeLine → Rep G H S (.ref a) (.scr ns)
  | kscr {a ns} : KLst G.K a (ns.map V.int) → ns.length ≤ sizeLine → Rep G H S (.ref a) (.scr ns)
  | exc {a c dd vs ds} : S a → S dd → H a = some (ExD (.ref (G.C c)) a dd) → H dd = some (.xd ((G.F c).zip vs)) → vs.length ≤ (G.F c).length → RepL G H S vs ds → Rep G H S (.ref a) (.exc c ds)
  | thk {f H1 S1} : Grow S1 H1 S H → Rep G H S (.ref f) (.thk f H1 S1)
inductive RepL (G : Ctx) (H : Hp) (S : Sset) : List V → List D → Prop
  | nil : RepL G H S [] []
  | cons {v d vs ds} : Rep G H S v d → RepL G H S vs ds → RepL G H S (v :: vs) (d :: ds)
inductive RepK (G : Ctx) (H : Hp) (S : Sset) : List (Key × V) → List (Key × D) → Prop
  | nil : RepK G H S [] []
  | cons {k v d vs ds} : keyOk k → Rep G H S v d → RepK G H S vs ds → RepK G H S ((k, v) :: vs) ((k, d) :: ds)
inductive RepT (G : Ctx) (H : Hp) (S : Sset) : List (List Key × V) → List (List Key × D) → Prop
  | nil : RepT G H S [] []
  | cons {k v d vs ds} : (∀ x ∈ k, keyOk x) → Rep G H S v d → RepT G H S vs ds → RepT G H S ((k, v) :: vs) ((k, d) :: ds)
end

section
variable {G : Ctx} {H H' : Hp} {S S' : Sset}
mutual
theorem Rep.mono (g : Grow S H S' H') : ∀ {v : V} {d : D}, Rep G H S v d → Rep G H' S' v d
  | _, _, .non => .non
  | _, _, .bl => .bl
  | _, _, .int => .int
  | _, _, .str h => .str h
  | _, _, .tup s h l r => .tup (g _ s).1 ((g _ s).2.trans h) l (RepL.mono g r)
  | _, _, .ktup k r => .ktup k (RepL.mono g r)
  | _, _, .lst s h l r => .lst (g _ s).1 ((g _ s).2.trans h) l (RepL.mono g r)
  | _, _, .dct s h l r => .dct (g _ s).1 ((g _ s).2.trans h) l (RepK.mono g r)
  | _, _, .dtt s h l r => .dtt (g _ s).1 ((g _ s).2.trans h) l (RepT.mono g r)
  | _, _, .obj s h l r => .obj (g _ s).1 ((g _ s).2.trans h) l (RepL.mono g r)
  | _, _, .scr s h l => .scr (g _ s).1 ((g _ s).2.trans h) l
  | _, _, .kscr h l => .kscr h l
  | _, _, .exc s s2 h h2 l r => .exc (g _ s).1 (g _ s2).1 ((g _ s).2.trans h) ((g _ s2).2.trans h2) l (RepL.mono g r)
  | _, _, .thk h => .thk (h.trans g)
theorem RepL.mono (g : Grow S H S' H') : ∀ {v : List V} {d : List D}, RepL G H S v d → RepL G H' S' v d
  | _, _, .nil => .nil
  | _, _, .cons a b => .cons (Rep.mono g a) (RepL.mono g b)
theorem RepK.mono (g : Grow S H S' H') : ∀ {v : List (Key × V)} {d : List (Key × D)}, RepK G H S v d → RepK G H' S' v d
  | _, _, .nil => .nil
  | _, _, .cons k a b => .cons k (Rep.mono g a) (RepK.mono g b)
theorem RepT.mono (g : Grow S H S' H') : ∀ {v : List (List Key × V)} {d : List (List Key × D)}, RepT G H S v d → RepT G H' S' v d
  | _, _, .nil => .nil
  | _, _, .cons k a b => .cons k (Rep.mono g a) (RepT.mono g b)
end
end

/-- what stands at a root: its content, all below it shared -/
def At (G : Ctx) (H : Hp) (S : Sset) (a : Addr) : D → Prop
  | .lst ds => ∃ vs, H a = some (.lst vs) ∧ vs.length ≤ sizeLine ∧ RepL G H S vs ds
  | .dct ds => ∃ vs, H a = some (.dK vs) ∧ vs.length ≤ sizeLine ∧ RepK G H S vs ds
  | .dtt ds => ∃ vs, H a = some (.dT vs) ∧ vs.length ≤ sizeLine ∧ RepT G H S vs ds
  | .obj c ds => ∃ dx vs, H a = some (.ins (G.C c) dx ((G.F c).zip vs)) ∧ vs.length ≤ (G.F c).length ∧ RepL G H S vs ds
  | _ => False
/-- a root that its holder may change -/
def Own (G : Ctx) (H : Hp) (S : Sset) (a : Addr) (d : D) : Prop := ¬ S a ∧ At G H S a d
theorem At.mono {G : Ctx} {H H' : Hp} {S S' : Sset} {a : Addr} {d : D} (g : Grow S H S' H') (e : H' a = H a) (h : At G H S a d) : At G H' S' a d := by
  cases d <;> first
    | exact h.elim
    | exact (let ⟨vs, h1, hl, h2⟩ := h; ⟨vs, e.trans h1, hl, h2.mono g⟩)
    | exact (let ⟨dx, vs, h1, hl, h2⟩ := h; ⟨dx, vs, e.trans h1, hl, h2.mono g⟩)
/-- no table of code objects -/
def NT (o : HO) : Prop := ∀ ps, o ≠ .tbl ps
theorem At.nt {G : Ctx} {H : Hp} {S : Sset} {a : Addr} {d : D} (h : At G H S a d) : ∀ ps, H a ≠ some (.tbl ps) := fun ps z => by
  cases d <;> first
    | exact h.elim
    | (obtain ⟨_, h1, _⟩ := h; rw [z] at h1; cases h1)
    | (obtain ⟨_, _, h1, _⟩ := h; rw [z] at h1; cases h1)
theorem At.some {G : Ctx} {H : Hp} {S : Sset} {a : Addr} {d : D} (h : At G H S a d) : ∃ o, H a = some o := by
  cases d <;> first
    | exact h.elim
    | exact (let ⟨_, h1, _⟩ := h; ⟨_, h1⟩)
    | exact (let ⟨_, _, h1, _⟩ := h; ⟨_, h1⟩)
/-- a read root: shared, or owned -/
def RepB (G : Ctx) (H : Hp) (S : Sset) (v : V) (d : D) : Prop := Rep G H S v d ∨ ∃ a, v = .ref a ∧ At G H S a d
theorem At.rep {G : Ctx} {H : Hp} {S : Sset} {a : Addr} {d : D} (h : At G H S a d) (s : S a) : Rep G H S (.ref a) d := by
  cases d <;> first
    | exact h.elim
    | exact (let ⟨vs, h1, hl, h2⟩ := h; .lst s h1 hl h2)
    | exact (let ⟨vs, h1, hl, h2⟩ := h; .dct s h1 hl h2)
    | exact (let ⟨vs, h1, hl, h2⟩ := h; .dtt s h1 hl h2)
    | exact (let ⟨dx, vs, h1, hl, h2⟩ := h; .obj s h1 hl h2)

/-! ### the frame's state -/
/-- a slot: shared, owned, handed in to be changed -/
inductive Tag where
  | s | o | p
  deriving DecidableEq
abbrev EV := List (Option (D × Tag))
/-- the ghost of a def's entry: the heap, what was shared, the root that was handed in to be changed (it stands in slot 0) -/
structure Gh where
  H0 : Hp
  S0 : Sset
  fa : Option Addr
  inF : Bool
/-- an address of this frame's own -/
def Gh.Ok (g : Gh) (a : Addr) : Prop := g.H0 a = none ∨ g.fa = some a

theorem At.ne_ext {G : Ctx} {H : Hp} {S : Sset} {a : Addr} {d : D} (h : At G H S a d) : ∀ φ, H a ≠ Option.some (HO.ext φ) := fun φ z => by
  cases d <;> first
    | exact h.elim
    | (obtain ⟨_, h1, _⟩ := h; rw [z] at h1; cases h1)
    | (obtain ⟨_, _, h1, _⟩ := h; rw [z] at h1; cases h1)
theorem tabs_upd {T : List (Addr × Str)} {H : Hp} {a : Addr} {o : HO} (t : LamX.Tabs T H) (h : ∀ ps, H a ≠ some (.tbl ps)) (h' : ∀ φ, H a ≠ Option.some (HO.ext φ)) : LamX.Tabs T (L2.upd H a o) := fun p hp => by
  obtain ⟨ps, h1, h2, h3⟩ := t p hp
  refine ⟨ps, by rw [upd_ne (show p.1 ≠ a from fun z => h ps (z ▸ h1))]; exact h1, h2, fun pos cv hc => ?_⟩
  obtain ⟨c, e1, e2⟩ := h3 pos cv hc
  exact ⟨c, e1, by rw [upd_ne (show c ≠ a from fun z => h' _ (z ▸ e2))]; exact e2⟩
/-- it stands; a table may have grown -/
def Keep (H : Hp) (a : Addr) (o : HO) : Prop := H a = some o ∨ ((∃ ps, o = .tbl ps) ∧ ∃ ps, H a = some (.tbl ps))
theorem Keep.nt {H : Hp} {a : Addr} {o : HO} (k : Keep H a o) (n : ∀ ps, some o ≠ some (HO.tbl ps)) : H a = some o := k.elim id fun ⟨⟨ps, z⟩, _⟩ => absurd (congrArg some z) (n ps)
theorem Keep.ne {H : Hp} {a : Addr} {o : HO} (k : Keep H a o) : H a ≠ none := fun z => by
  rcases k with k | ⟨_, _, k⟩ <;> rw [z] at k <;> cases k
def Ext1 (H H' : Hp) : Prop := ∀ a o, H a = some o → Keep H' a o
theorem Keep.ext {H H' : Hp} {a : Addr} {o : HO} (k : Keep H a o) (e : Ext1 H H') : Keep H' a o := by
  rcases k with k | ⟨z, ps, k⟩
  · exact e a o k
  · rcases e a _ k with q | ⟨_, q⟩
    · exact .inr ⟨z, ps, q⟩
    · exact .inr ⟨z, q⟩
structure SI (G : Ctx) (g : Gh) (σ : St) (H : Hp) (env : EV) (S : Sset) (P : List (Addr × D)) : Prop where
  len : env.length = σ.length
  shr : ∀ (i : Nat) (d : D), env[i]? = some (some (d, .s)) → ∃ v, σ[i]? = some (some v) ∧ Rep G H S v d
  own : ∀ (i : Nat) (d : D) (t : Tag), t ≠ .s → env[i]? = some (some (d, t)) → ∃ a, σ[i]? = some (some (.ref a)) ∧ Own G H S a d ∧ g.Ok a
  uniq : ∀ (i j : Nat) (d e : D) (t u : Tag) (a : Addr), t ≠ .s → u ≠ .s → env[i]? = some (some (d, t)) → env[j]? = some (some (e, u)) → σ[i]? = some (some (.ref a)) → σ[j]? = some (some (.ref a)) → i = j
  pin : ∀ (i : Nat) (d : D), env[i]? = some (some (d, .p)) → i = 0 ∧ ∃ a, σ[0]? = some (some (.ref a)) ∧ g.fa = some a
  pin0 : ∀ a, g.fa = some a → g.inF = true → ∃ d, env[0]? = some (some (d, .p))
  pend : ∀ p ∈ P, Own G H S p.1 p.2 ∧ g.Ok p.1
  pun : (P.map (·.1)).Nodup
  pdis : ∀ p ∈ P, ∀ (i : Nat) (d : D) (t : Tag), t ≠ .s → env[i]? = some (some (d, t)) → σ[i]? ≠ some (some (.ref p.1))
  fr : ∀ a o, g.H0 a = some o → g.fa ≠ some a → Keep H a o
  sh0 : ∀ a, g.S0 a → S a
  sh1 : ∀ a, S a → g.S0 a ∨ g.H0 a = none ∨ g.fa = some a ∨ ∃ φ, g.H0 a = some (.ext φ)
  shH : ∀ a, S a → ∃ o, H a = some o
  tab : LamX.Tabs G.T H
  nt : ∀ a, S a → ∀ ps, H a ≠ some (.tbl ps)
/-- what is shared stands, and is no table; the tables of code objects -/
def ShOk (G : Ctx) (H : Hp) (S : Sset) : Prop := (∀ a, S a → ∃ o, H a = some o) ∧ LamX.Tabs G.T H ∧ ∀ a, S a → ∀ ps, H a ≠ some (.tbl ps)
theorem SI.sho {G : Ctx} {g : Gh} {σ : St} {H : Hp} {env : EV} {S : Sset} {P : List (Addr × D)} (I : SI G g σ H env S P) : ShOk G H S := ⟨I.shH, I.tab, I.nt⟩
/-- all that was tracked stands -/
def Ext (H H' : Hp) : Prop := ∀ a o, H a = some o → H' a = some o
theorem Ext.rfl' {H : Hp} : Ext H H := fun _ _ h => h
theorem Ext.trans {H H1 H2 : Hp} (a : Ext H H1) (b : Ext H1 H2) : Ext H H2 := fun c o h => b c o (a c o h)
theorem Ext.one {H H' : Hp} (e : Ext H H') : Ext1 H H' := fun a o h => .inl (e a o h)
theorem Ext.upd {H : Hp} {p : Addr} {o : HO} (h : H p = none) : Ext H (L2.upd H p o) := fun a u e => by rw [upd_ne (ne_of_none e h)]; exact e
def Or1 (S : Sset) (N : Sset) : Sset := fun a => S a ∨ N a
abbrev One (a : Addr) : Sset := fun b => b = a
abbrev Nul : Sset := fun _ => False

section
variable {G : Ctx} {g : Gh} {σ : St} {H H' : Hp} {env : EV} {S N : Sset} {P : List (Addr × D)} {a : Addr} {d : D}
theorem SI.grow1 (I : SI G g σ H env S P) (e : Ext1 H H') (S' : Sset) (hs : ∀ b, S b → S' b) : Grow S H S' H' := fun b hb => by
  obtain ⟨o, ho⟩ := I.shH b hb
  exact ⟨hs b hb, ((e b o ho).nt fun ps z => I.nt b hb ps (ho.trans z)).trans ho.symm⟩
theorem SI.grow (I : SI G g σ H env S P) (e : Ext H H') (S' : Sset) (hs : ∀ b, S b → S' b) : Grow S H S' H' := fun b hb => by
  obtain ⟨o, ho⟩ := I.shH b hb
  exact ⟨hs b hb, (e b o ho).trans ho.symm⟩
theorem SI.notN (I : SI G g σ H env S P) {b : Addr} {o : HO} (ho : H b = some o) (hN : ∀ b, N b → H b = none) : ¬ N b := fun h => by
  have := hN b h; rw [this] at ho; cases ho
/-- new objects: N shared, the result owned or not -/
theorem SI.ext (I : SI G g σ H env S P) (e : Ext H H') (hN : ∀ b, N b → H b = none ∧ ∃ o, H' b = some o ∧ NT o) : SI G g σ H' env (Or1 S N) P := by
  have gr : Grow S H (Or1 S N) H' := I.grow e _ fun b h => .inl h
  have ow : ∀ b d, Own G H S b d → Own G H' (Or1 S N) b d := fun b d ⟨h1, h2⟩ => by
    obtain ⟨o, ho⟩ := h2.some
    exact ⟨fun h => h.elim h1 (I.notN ho fun c hc => (hN c hc).1), h2.mono gr ((e b o ho).trans ho.symm)⟩
  refine ⟨I.len, fun i d h => ?_, fun i d t ht h => ?_, I.uniq, I.pin, I.pin0, fun p hp => ⟨ow _ _ (I.pend p hp).1, (I.pend p hp).2⟩, I.pun, I.pdis, fun b o h1 h2 => (I.fr b o h1 h2).ext e.one, fun b h => .inl (I.sh0 b h), fun b h => ?_, fun b h => ?_, I.tab.ext e, fun b h ps z => ?_⟩
  · obtain ⟨v, h1, h2⟩ := I.shr i d h
    exact ⟨v, h1, h2.mono gr⟩
  · obtain ⟨a, h1, h2, h3⟩ := I.own i d t ht h
    exact ⟨a, h1, ow _ _ h2, h3⟩
  · rcases h with h | h
    · exact I.sh1 b h
    · refine .inr ?_
      cases q : g.H0 b with
      | none => exact .inl rfl
      | some o =>
        refine .inr (.inl (Classical.byContradiction fun hf => ?_))
        exact (I.fr b o q hf).ne (hN b h).1
  · rcases h with h | h
    · obtain ⟨o, ho⟩ := I.shH b h
      exact ⟨o, e _ _ ho⟩
    · obtain ⟨o, ho, _⟩ := (hN b h).2
      exact ⟨o, ho⟩
  · rcases h with h | h
    · obtain ⟨o, ho⟩ := I.shH b h
      rw [e _ _ ho] at z
      exact I.nt b h ps (ho.trans z)
    · obtain ⟨o, ho, n⟩ := (hN b h).2
      rw [ho] at z
      exact n ps (Option.some.inj z)
theorem SI.okNew (I : SI G g σ H env S P) (hn : H a = none) : g.Ok a := by
  unfold Gh.Ok
  cases q : g.H0 a with
  | none => exact .inl rfl
  | some o =>
    refine .inr (Classical.byContradiction fun hf => ?_)
    exact (I.fr a o q hf).ne hn
/-- a new owned root -/
theorem SI.push (I : SI G g σ H env S P) (ho : Own G H S a d) (ok : g.Ok a) (hp : ∀ p ∈ P, p.1 ≠ a) (hv : ∀ (i : Nat) (d : D) (t : Tag), t ≠ .s → env[i]? = some (some (d, t)) → σ[i]? ≠ some (some (.ref a))) : SI G g σ H env S ((a, d) :: P) := by
  refine ⟨I.len, I.shr, I.own, I.uniq, I.pin, I.pin0, fun p hp' => ?_, ?_, fun p hp' => ?_, I.fr, I.sh0, I.sh1, I.shH, I.tab, I.nt⟩
  · rcases List.mem_cons.mp hp' with rfl | h
    · exact ⟨ho, ok⟩
    · exact I.pend p h
  · rw [List.map_cons, List.nodup_cons]
    refine ⟨fun h => ?_, I.pun⟩
    obtain ⟨q, hq, e⟩ := List.mem_map.mp h
    exact hp q hq e
  · rcases List.mem_cons.mp hp' with rfl | h
    · exact hv
    · exact I.pdis p h
theorem SI.pop (I : SI G g σ H env S ((a, d) :: P)) : SI G g σ H env S P :=
  ⟨I.len, I.shr, I.own, I.uniq, I.pin, I.pin0, fun p hp => I.pend p (List.mem_cons_of_mem _ hp), (List.nodup_cons.mp (by have := I.pun; rwa [List.map_cons] at this)).2, fun p hp => I.pdis p (List.mem_cons_of_mem _ hp), I.fr, I.sh0, I.sh1, I.shH, I.tab, I.nt⟩
/-- new objects and a new owned root -/
theorem SI.extOwn (I : SI G g σ H env S P) (e : Ext H H') (hN : ∀ b, N b → H b = none ∧ ∃ o, H' b = some o ∧ NT o) (ha : H a = none) (hnN : ¬ N a) (hat : At G H' (Or1 S N) a d) : SI G g σ H' env (Or1 S N) ((a, d) :: P) := by
  have na : ¬ S a := fun h => by
    obtain ⟨o, ho⟩ := I.shH a h
    rw [ha] at ho; cases ho
  refine (I.ext e hN).push ⟨fun h => h.elim na hnN, hat⟩ (I.okNew ha) (fun p hp q => ?_) fun i d t ht h q => ?_
  · obtain ⟨o, ho⟩ := (I.pend p hp).1.2.some
    rw [q, ha] at ho; cases ho
  · obtain ⟨b, h1, h2, _⟩ := I.own i d t ht h
    rw [h1] at q
    injection q with q; injection q with q; injection q with q
    obtain ⟨o, ho⟩ := h2.2.some
    rw [q, ha] at ho; cases ho
theorem sh1_ok (ok : g.Ok a) : g.S0 a ∨ g.H0 a = none ∨ g.fa = some a ∨ ∃ φ, g.H0 a = some (.ext φ) := ok.elim (fun h => .inr (.inl h)) fun h => .inr (.inr (.inl h))
theorem SI.sh1_ext (I : SI G g σ H env S P) {φ} (h : H a = some (.ext φ)) : g.S0 a ∨ g.H0 a = none ∨ g.fa = some a ∨ ∃ φ, g.H0 a = some (.ext φ) := by
  cases q : g.H0 a with
  | none => exact .inr (.inl rfl)
  | some o =>
    by_cases hf : g.fa = some a
    · exact .inr (.inr (.inl hf))
    · rcases I.fr a o q hf with k | ⟨_, ps, k⟩
      · rw [h] at k; injection k with k; subst k
        exact .inr (.inr (.inr ⟨φ, rfl⟩))
      · rw [h] at k; cases k
theorem grow_one (S : Sset) (H : Hp) : Grow S H (Or1 S (One a)) H := fun _ h => ⟨.inl h, rfl⟩
theorem own_one {b : Addr} (hb : b ≠ a) (h : Own G H S b d) : Own G H (Or1 S (One a)) b d := ⟨fun q => q.elim h.1 hb, h.2.mono (grow_one S H) rfl⟩
/-- a pending root is given away -/
theorem SI.freeze (I : SI G g σ H env S ((a, d) :: P)) : SI G g σ H env (Or1 S (One a)) P ∧ Rep G H (Or1 S (One a)) (.ref a) d := by
  have ha := I.pend (a, d) List.mem_cons_self
  have nd : a ∉ P.map (·.1) := (List.nodup_cons.mp (by have := I.pun; rwa [List.map_cons] at this)).1
  obtain ⟨o, ho⟩ := ha.1.2.some
  refine ⟨⟨I.len, fun i d h => ?_, fun i e t ht h => ?_, I.uniq, I.pin, I.pin0, fun p hp => ⟨own_one (fun q => nd (q ▸ List.mem_map_of_mem hp)) (I.pend p (List.mem_cons_of_mem _ hp)).1, (I.pend p (List.mem_cons_of_mem _ hp)).2⟩, I.pop.pun, I.pop.pdis, I.fr, fun b h => .inl (I.sh0 b h), fun b h => ?_, fun b h => ?_, I.tab, fun b h => h.elim (I.nt b) fun z => by subst z; exact ha.1.2.nt⟩, (ha.1.2.mono (grow_one S H) rfl).rep (.inr rfl)⟩
  · obtain ⟨v, h1, h2⟩ := I.shr i d h
    exact ⟨v, h1, h2.mono (grow_one S H)⟩
  · obtain ⟨b, h1, h2, h3⟩ := I.own i e t ht h
    exact ⟨b, h1, own_one (fun q => I.pdis (a, d) List.mem_cons_self i e t ht h (q ▸ h1)) h2, h3⟩
  · rcases h with h | h
    · exact I.sh1 b h
    · have h : b = a := h
      subst h
      exact sh1_ok ha.2
  · rcases h with h | h
    · exact I.shH b h
    · have h : b = a := h
      subst h
      exact ⟨o, ho⟩
theorem get_set {α : Type} {l : List α} {i j : Nat} {x y : α} (h : (l.set i x)[j]? = some y) : (i = j ∧ y = x) ∨ (i ≠ j ∧ l[j]? = some y) := by
  by_cases e : i = j
  · subst e
    rw [List.getElem?_set_self'] at h
    cases q : l[i]? with
    | none => rw [q] at h; cases h
    | some z => rw [q] at h; exact .inl ⟨rfl, (Option.some.inj h).symm⟩
  · rw [List.getElem?_set_ne e] at h
    exact .inr ⟨e, h⟩
/-- an owned slot is given away -/
theorem SI.freezeVar {i : Nat} (I : SI G g σ H env S P) (h : env[i]? = some (some (d, .o))) : ∃ a, σ[i]? = some (some (.ref a)) ∧ SI G g σ H (env.set i (some (d, .s))) (Or1 S (One a)) P ∧ Rep G H (Or1 S (One a)) (.ref a) d := by
  obtain ⟨a, h1, h2, h3⟩ := I.own i d .o (by decide) h
  obtain ⟨o, ho⟩ := h2.2.some
  have rp : Rep G H (Or1 S (One a)) (.ref a) d := (h2.2.mono (grow_one S H) rfl).rep (.inr rfl)
  have old : ∀ {j : Nat} {e : D} {t : Tag}, t ≠ .s → (env.set i (some (d, .s)))[j]? = some (some (e, t)) → i ≠ j ∧ env[j]? = some (some (e, t)) := fun {j e t} ht q => by
    rcases get_set q with ⟨_, q⟩ | q
    · injection q with q; injection q with _ q; exact absurd q ht
    · exact q
  refine ⟨a, h1, ⟨by rw [List.length_set]; exact I.len, fun j e q => ?_, fun j e t ht q => ?_, fun j k e e' t u b ht hu q q' => I.uniq j k e e' t u b ht hu (old ht q).2 (old hu q').2, fun j e q => I.pin j e (old (by decide) q).2, fun b hb hn => ?_, fun p hp => ⟨own_one (fun q => I.pdis p hp i d .o (by decide) h (q ▸ h1)) (I.pend p hp).1, (I.pend p hp).2⟩, I.pun, fun p hp j e t ht q => I.pdis p hp j e t ht (old ht q).2, I.fr, fun b h => .inl (I.sh0 b h), fun b hb => ?_, fun b hb => ?_, I.tab, fun b h => h.elim (I.nt b) fun z => by subst z; exact h2.2.nt⟩, rp⟩
  · rcases get_set q with ⟨rfl, z⟩ | ⟨_, q⟩
    · injection z with z; injection z with z _; subst z
      exact ⟨.ref a, h1, rp⟩
    · obtain ⟨v, q1, q2⟩ := I.shr j e q
      exact ⟨v, q1, q2.mono (grow_one S H)⟩
  · obtain ⟨b, q1, q2, q3⟩ := I.own j e t ht (old ht q).2
    exact ⟨b, q1, own_one (fun z => (old ht q).1 (I.uniq i j d e .o t a (by decide) ht h (old ht q).2 h1 (z ▸ q1))) q2, q3⟩
  · obtain ⟨e, q⟩ := I.pin0 b hb hn
    refine ⟨e, ?_⟩
    have : i ≠ 0 := fun z => by subst z; rw [h] at q; injection q with q; injection q with q; injection q with _ q; cases q
    rw [List.getElem?_set_ne this]; exact q
  · rcases hb with hb | hb
    · exact I.sh1 b hb
    · have hb : b = a := hb
      subst hb; exact sh1_ok h3
  · rcases hb with hb | hb
    · exact I.shH b hb
    · have hb : b = a := hb
      subst hb; exact ⟨o, ho⟩

theorem set_slot {i : Nat} {v w : V} {σ : St} {j : Nat} (h : (σ.set i (some v))[j]? = some (some w)) (hi : i < σ.length) : (i = j ∧ w = v) ∨ (i ≠ j ∧ σ[j]? = some (some w)) := by
  rcases get_set h with ⟨e, q⟩ | q
  · exact .inl ⟨e, by injection q⟩
  · exact .inr q
theorem slot_ne {i j : Nat} {v : V} {σ : St} (h : i ≠ j) : (σ.set i (some v))[j]? = σ[j]? := List.getElem?_set_ne h
/-- a slot takes a shared value -/
theorem SI.setS {i : Nat} {v : V} {r : Option (D × Tag)} (I : SI G g σ H env S P) (h : env[i]? = some r) (hp : ∀ e, r ≠ some (e, .p)) (rv : Rep G H S v d) : SI G g (σ.set i (some v)) H (env.set i (some (d, .s))) S P := by
  have hi : i < env.length := (List.getElem?_eq_some_iff.mp h).1
  have hi' : i < σ.length := by rw [← I.len]; exact hi
  have old : ∀ {j : Nat} {e : D} {t : Tag}, t ≠ .s → (env.set i (some (d, .s)))[j]? = some (some (e, t)) → i ≠ j ∧ env[j]? = some (some (e, t)) := fun {j e t} ht q => by
    rcases get_set q with ⟨_, z⟩ | z
    · injection z with z; injection z with _ z; exact absurd z ht
    · exact z
  refine ⟨by rw [List.length_set, List.length_set]; exact I.len, fun j e q => ?_, fun j e t ht q => ?_, fun j k e e' t u b ht hu q q' q1 q2 => I.uniq j k e e' t u b ht hu (old ht q).2 (old hu q').2 ((slot_ne (old ht q).1).symm.trans q1) ((slot_ne (old hu q').1).symm.trans q2),
    fun j e q => ?_, fun b hb hn => ?_, I.pend, I.pun, fun p hp' j e t ht q => ?_, I.fr, I.sh0, I.sh1, I.shH, I.tab, I.nt⟩
  · rcases get_set q with ⟨rfl, z⟩ | ⟨hj, q⟩
    · injection z with z; injection z with z _; subst z
      exact ⟨v, by rw [List.getElem?_set_self hi'], rv⟩
    · rw [slot_ne hj]; exact I.shr j e q
  · rw [slot_ne (old ht q).1]; exact I.own j e t ht (old ht q).2
  · obtain ⟨h1, a, h2, h3⟩ := I.pin j e (old (by decide) q).2
    have hj := (old (by decide) q).1
    rw [h1] at hj
    exact ⟨h1, a, by rw [slot_ne hj]; exact h2, h3⟩
  · obtain ⟨e, q⟩ := I.pin0 b hb hn
    have : i ≠ 0 := fun z => by subst z; rw [h] at q; injection q with q; exact hp e q
    exact ⟨e, by rw [List.getElem?_set_ne this]; exact q⟩
  · rw [slot_ne (old ht q).1]; exact I.pdis p hp' j e t ht (old ht q).2
/-- a slot takes a pending root -/
theorem SI.setO {i : Nat} {r : Option (D × Tag)} (I : SI G g σ H env S ((a, d) :: P)) (h : env[i]? = some r) (hp : ∀ e, r ≠ some (e, .p)) : SI G g (σ.set i (some (.ref a))) H (env.set i (some (d, .o))) S P := by
  have hi : i < env.length := (List.getElem?_eq_some_iff.mp h).1
  have hi' : i < σ.length := by rw [← I.len]; exact hi
  have ha := I.pend (a, d) List.mem_cons_self
  have nd : a ∉ P.map (·.1) := (List.nodup_cons.mp (by have := I.pun; rwa [List.map_cons] at this)).1
  have dis := I.pdis (a, d) List.mem_cons_self
  have old : ∀ {j : Nat} {e : D} {t : Tag}, (env.set i (some (d, .o)))[j]? = some (some (e, t)) → (i = j ∧ e = d ∧ t = .o) ∨ (i ≠ j ∧ env[j]? = some (some (e, t))) := fun {j e t} q => by
    rcases get_set q with ⟨q0, z⟩ | z
    · injection z with z; injection z with z1 z2; exact .inl ⟨q0, z1, z2⟩
    · exact .inr z
  have self : (σ.set i (some (.ref a)))[i]? = some (some (V.ref a)) := by rw [List.getElem?_set_self hi']
  refine ⟨by rw [List.length_set, List.length_set]; exact I.len, fun j e q => ?_, fun j e t ht q => ?_, fun j k e e' t u b ht hu q q' q1 q2 => ?_,
    fun j e q => ?_, fun b hb hn => ?_, I.pop.pend, I.pop.pun, fun p hp' j e t ht q => ?_, I.fr, I.sh0, I.sh1, I.shH, I.tab, I.nt⟩
  · rcases old q with ⟨_, _, z⟩ | ⟨hj, q⟩
    · cases z
    · rw [slot_ne hj]; exact I.shr j e q
  · rcases old q with ⟨rfl, rfl, rfl⟩ | ⟨hj, q⟩
    · exact ⟨a, self, ha.1, ha.2⟩
    · rw [slot_ne hj]; exact I.own j e t ht q
  · rcases old q with ⟨rfl, rfl, rfl⟩ | ⟨hj, q⟩
    · rcases old q' with ⟨rfl, _, _⟩ | ⟨hk, q'⟩
      · rfl
      · rw [self] at q1; injection q1 with q1; injection q1 with q1; injection q1 with q1; subst q1
        rw [slot_ne hk] at q2
        exact absurd q2 (dis k e' u hu q')
    · rcases old q' with ⟨z0, _, _⟩ | ⟨hk, q'⟩
      · subst z0
        rw [self] at q2; injection q2 with q2; injection q2 with q2; injection q2 with q2; subst q2
        rw [slot_ne hj] at q1
        exact absurd q1 (dis j e t ht q)
      · exact I.uniq j k e e' t u b ht hu q q' ((slot_ne hj).symm.trans q1) ((slot_ne hk).symm.trans q2)
  · rcases old q with ⟨_, _, z⟩ | ⟨hj, q⟩
    · cases z
    · obtain ⟨h1, a, h2, h3⟩ := I.pin j e q
      rw [h1] at hj
      exact ⟨h1, a, by rw [slot_ne hj]; exact h2, h3⟩
  · obtain ⟨e, q⟩ := I.pin0 b hb hn
    have : i ≠ 0 := fun z => by subst z; rw [h] at q; injection q with q; exact hp e q
    exact ⟨e, by rw [List.getElem?_set_ne this]; exact q⟩
  · rcases old q with ⟨rfl, rfl, rfl⟩ | ⟨hj, q⟩
    · rw [self]; intro z; injection z with z; injection z with z; injection z with z
      exact nd (z ▸ List.mem_map_of_mem hp')
    · rw [slot_ne hj]; exact I.pop.pdis p hp' j e t ht q
/-- an owned root is changed -/
theorem SI.write {i : Nat} {t : Tag} {d' : D} {o : HO} (I : SI G g σ H env S P) (ht : t ≠ .s) (h : env[i]? = some (some (d, t))) (hσ : σ[i]? = some (some (.ref a))) (hat : At G (L2.upd H a o) S a d') :
    SI G g σ (L2.upd H a o) (env.set i (some (d', t))) S P := by
  obtain ⟨a', h1, h2, h3⟩ := I.own i d t ht h
  obtain rfl : a' = a := by rw [h1] at hσ; injection hσ with q; injection q with q; injection q
  obtain ⟨o0, ho0⟩ := h2.2.some
  have gr : Grow S H S (L2.upd H a' o) := fun b hb => ⟨hb, upd_ne fun e => h2.1 (e ▸ hb)⟩
  have ow : ∀ {b : Addr} {e : D}, b ≠ a' → Own G H S b e → Own G (L2.upd H a' o) S b e := fun {b e} hb q => ⟨q.1, q.2.mono gr (upd_ne hb)⟩
  have old : ∀ {j : Nat} {e : D} {u : Tag}, (env.set i (some (d', t)))[j]? = some (some (e, u)) → (i = j ∧ e = d' ∧ u = t) ∨ (i ≠ j ∧ env[j]? = some (some (e, u))) := fun {j e u} q => by
    rcases get_set q with ⟨q0, z⟩ | z
    · injection z with z; injection z with z1 z2; exact .inl ⟨q0, z1, z2⟩
    · exact .inr z
  have tagd : ∀ {j : Nat} {e : D} {u : Tag}, (env.set i (some (d', t)))[j]? = some (some (e, u)) → ∃ e', env[j]? = some (some (e', u)) := fun {j e u} q => by
    rcases old q with ⟨rfl, rfl, rfl⟩ | ⟨_, q⟩
    · exact ⟨d, h⟩
    · exact ⟨e, q⟩
  refine ⟨by rw [List.length_set]; exact I.len, fun j e q => ?_, fun j e u hu q => ?_, fun j k e e' u w b hu hw q q' => ?_, fun j e q => ?_, fun b hb hn => ?_, fun p hp => ⟨ow (fun z => I.pdis p hp i d t ht h (z ▸ hσ)) (I.pend p hp).1, (I.pend p hp).2⟩, I.pun,
    fun p hp j e u hu q => ?_, fun b u q1 q2 => ?_, I.sh0, I.sh1, fun b hb => ?_, tabs_upd I.tab h2.2.nt h2.2.ne_ext, fun b hb ps z => ?_⟩
  · rcases old q with ⟨_, _, z⟩ | ⟨_, q⟩
    · exact absurd z.symm ht
    · obtain ⟨v, q1, q2⟩ := I.shr j e q
      exact ⟨v, q1, q2.mono gr⟩
  · rcases old q with ⟨rfl, rfl, rfl⟩ | ⟨hj, q⟩
    · exact ⟨a', hσ, ⟨h2.1, hat⟩, h3⟩
    · obtain ⟨b, q1, q2, q3⟩ := I.own j e u hu q
      exact ⟨b, q1, ow (fun z => hj (I.uniq i j d e t u a' ht hu h q hσ (z ▸ q1))) q2, q3⟩
  · obtain ⟨x, q⟩ := tagd q
    obtain ⟨y, q'⟩ := tagd q'
    exact I.uniq j k x y u w b hu hw q q'
  · obtain ⟨x, q⟩ := tagd q
    exact I.pin j x q
  · obtain ⟨e, q⟩ := I.pin0 b hb hn
    by_cases hi : i = 0
    · subst hi
      rw [h] at q; injection q with q; injection q with q; injection q with q1 q2; subst q2
      have hi : 0 < env.length := (List.getElem?_eq_some_iff.mp h).1
      exact ⟨d', by rw [List.getElem?_set_self hi]⟩
    · exact ⟨e, by rw [List.getElem?_set_ne hi]; exact q⟩
  · obtain ⟨x, q⟩ := tagd q
    exact I.pdis p hp j x u hu q
  · have nb : b ≠ a' := fun z => by
      subst z
      rcases h3 with h3 | h3
      · rw [h3] at q1; cases q1
      · exact q2 h3
    rcases I.fr b u q1 q2 with k | ⟨k1, ps, k⟩
    · exact .inl (by rw [upd_ne nb]; exact k)
    · exact .inr ⟨k1, ps, by rw [upd_ne nb]; exact k⟩
  · obtain ⟨u, hu⟩ := I.shH b hb
    exact ⟨u, by rw [upd_ne (show b ≠ a' from fun e => h2.1 (e ▸ hb))]; exact hu⟩
  · rw [upd_ne (show b ≠ a' from fun e => h2.1 (e ▸ hb))] at z
    exact I.nt b hb ps z

theorem SI.growS (I : SI G g σ H env S P) {S' : Sset} (hs : ∀ b, S b → S' b) (e : ∀ b, S b → H' b = H b) : Grow S H S' H' := fun b hb => ⟨hs b hb, e b hb⟩
/-- behind a callee that changes nothing of ours; J: the callee's last state -/
theorem SI.call0 {fl : Bool} {σ' : St} {env' : EV} {S' : Sset} {R : List (Addr × D)} (I : SI G g σ H env S P) (J : SI G ⟨H, S, none, fl⟩ σ' H' env' S' R) : SI G g σ H' env S' P ∧ Grow S H S' H' := by
  have e : Ext1 H H' := fun b o h => J.fr b o h (by simp)
  have gr : Grow S H S' H' := I.grow1 e S' J.sh0
  have nS : ∀ b, ¬ S b → (∃ o, H b = some o) → (∀ φ, H b ≠ some (.ext φ)) → ¬ S' b := fun b hb ⟨o, ho⟩ hx h => by
    rcases J.sh1 b h with h | h | h | ⟨φ, h⟩
    · exact hb h
    · have h : H b = none := h
      rw [h] at ho; cases ho
    · cases h
    · exact hx φ h
  have ow : ∀ b d, Own G H S b d → Own G H' S' b d := fun b d ⟨h1, h2⟩ => by
    obtain ⟨o, ho⟩ := h2.some
    exact ⟨nS b h1 ⟨o, ho⟩ h2.ne_ext, h2.mono gr (((e b o ho).nt fun ps z => h2.nt ps (ho.trans z)).trans ho.symm)⟩
  refine ⟨⟨I.len, fun i d h => ?_, fun i d t ht h => ?_, I.uniq, I.pin, I.pin0, fun p hp => ⟨ow _ _ (I.pend p hp).1, (I.pend p hp).2⟩, I.pun, I.pdis, fun b o h1 h2 => (I.fr b o h1 h2).ext e, fun b h => J.sh0 b (I.sh0 b h), fun b h => ?_, J.shH, J.tab, J.nt⟩, gr⟩
  · obtain ⟨v, h1, h2⟩ := I.shr i d h
    exact ⟨v, h1, h2.mono gr⟩
  · obtain ⟨a, h1, h2, h3⟩ := I.own i d t ht h
    exact ⟨a, h1, ow _ _ h2, h3⟩
  · rcases J.sh1 b h with h | h | h | ⟨φ, h⟩
    · exact I.sh1 b h
    · exact sh1_ok (I.okNew h)
    · cases h
    · exact I.sh1_ext h
/-- .. a callee that changes the root of our slot i -/
theorem SI.call1 {fl : Bool} {σ' : St} {env' : EV} {S' : Sset} {R : List (Addr × D)} {i : Nat} {t : Tag} {d' : D} (I : SI G g σ H env S P) (ht : t ≠ .s) (h : env[i]? = some (some (d, t))) (hσ : σ[i]? = some (some (.ref a)))
    (J : SI G ⟨H, S, some a, fl⟩ σ' H' env' S' R) (hn : Own G H' S' a d') : SI G g σ H' (env.set i (some (d', t))) S' P ∧ Grow S H S' H' := by
  obtain ⟨a', h1, h2, h3⟩ := I.own i d t ht h
  obtain rfl : a' = a := by rw [h1] at hσ; injection hσ with q; injection q with q; injection q
  have e : ∀ b o, b ≠ a' → H b = some o → Keep H' b o := fun b o hb h => J.fr b o h (by simpa using Ne.symm hb)
  have gr : Grow S H S' H' := fun b hb => ⟨J.sh0 b hb, by
    obtain ⟨o, ho⟩ := I.shH b hb
    exact ((e b o (fun q => h2.1 (q ▸ hb)) ho).nt fun ps z => I.nt b hb ps (ho.trans z)).trans ho.symm⟩
  have nS : ∀ b, b ≠ a' → ¬ S b → (∃ o, H b = some o) → (∀ φ, H b ≠ some (.ext φ)) → ¬ S' b := fun b hba hb ⟨o, ho⟩ hx h => by
    rcases J.sh1 b h with h | h | h | ⟨φ, h⟩
    · exact hb h
    · have h : H b = none := h
      rw [h] at ho; cases ho
    · have h : some a' = some b := h
      injection h with h; exact hba h.symm
    · exact hx φ h
  have ow : ∀ {b : Addr} {e' : D}, b ≠ a' → Own G H S b e' → Own G H' S' b e' := fun {b e'} hb ⟨h1, h2⟩ => by
    obtain ⟨o, ho⟩ := h2.some
    exact ⟨nS b hb h1 ⟨o, ho⟩ h2.ne_ext, h2.mono gr (((e b o hb ho).nt fun ps z => h2.nt ps (ho.trans z)).trans ho.symm)⟩
  have old : ∀ {j : Nat} {e : D} {u : Tag}, (env.set i (some (d', t)))[j]? = some (some (e, u)) → (i = j ∧ e = d' ∧ u = t) ∨ (i ≠ j ∧ env[j]? = some (some (e, u))) := fun {j e u} q => by
    rcases get_set q with ⟨q0, z⟩ | z
    · injection z with z; injection z with z1 z2; exact .inl ⟨q0, z1, z2⟩
    · exact .inr z
  have tagd : ∀ {j : Nat} {e : D} {u : Tag}, (env.set i (some (d', t)))[j]? = some (some (e, u)) → ∃ e', env[j]? = some (some (e', u)) := fun {j e u} q => by
    rcases old q with ⟨rfl, rfl, rfl⟩ | ⟨_, q⟩
    · exact ⟨d, h⟩
    · exact ⟨e, q⟩
  refine ⟨⟨by rw [List.length_set]; exact I.len, fun j e q => ?_, fun j e u hu q => ?_, fun j k e e' u w b hu hw q q' => ?_, fun j e q => ?_, fun b hb hn => ?_, fun p hp => ⟨ow (fun z => I.pdis p hp i d t ht h (z ▸ hσ)) (I.pend p hp).1, (I.pend p hp).2⟩, I.pun,
    fun p hp j e u hu q => ?_, fun b u q1 q2 => ?_, fun b h => J.sh0 b (I.sh0 b h), fun b h => ?_, J.shH, J.tab, J.nt⟩, gr⟩
  · rcases old q with ⟨_, _, z⟩ | ⟨_, q⟩
    · exact absurd z.symm ht
    · obtain ⟨v, q1, q2⟩ := I.shr j e q
      exact ⟨v, q1, q2.mono gr⟩
  · rcases old q with ⟨rfl, rfl, rfl⟩ | ⟨hj, q⟩
    · exact ⟨a', hσ, hn, h3⟩
    · obtain ⟨b, q1, q2, q3⟩ := I.own j e u hu q
      exact ⟨b, q1, ow (fun z => hj (I.uniq i j d e t u a' ht hu h q hσ (z ▸ q1))) q2, q3⟩
  · obtain ⟨x, q⟩ := tagd q
    obtain ⟨y, q'⟩ := tagd q'
    exact I.uniq j k x y u w b hu hw q q'
  · obtain ⟨x, q⟩ := tagd q
    exact I.pin j x q
  · obtain ⟨e, q⟩ := I.pin0 b hb hn
    by_cases hi : i = 0
    · subst hi
      rw [h] at q; injection q with q; injection q with q; injection q with q1 q2; subst q2
      have hi : 0 < env.length := (List.getElem?_eq_some_iff.mp h).1
      exact ⟨d', by rw [List.getElem?_set_self hi]⟩
    · exact ⟨e, by rw [List.getElem?_set_ne hi]; exact q⟩
  · obtain ⟨x, q⟩ := tagd q
    exact I.pdis p hp j x u hu q
  · have nb : b ≠ a' := fun z => by
      subst z
      rcases h3 with h3 | h3
      · rw [h3] at q1; cases q1
      · exact q2 h3
    rcases I.fr b u q1 q2 with k | ⟨k1, ps, k⟩
    · exact e b u nb k
    · rcases e b _ nb k with q | ⟨_, q⟩
      · exact .inr ⟨k1, ps, q⟩
      · exact .inr ⟨k1, q⟩
  · rcases J.sh1 b h with h | h | h | ⟨φ, h⟩
    · exact I.sh1 b h
    · exact sh1_ok (I.okNew h)
    · have h : some a' = some b := h
      injection h with h; subst h; exact sh1_ok h3
    · exact I.sh1_ext h
/-- a new root out of a callee; I: our state ahead of the call, I': behind it -/
theorem SI.fresh {env1 : EV} {H1 : Hp} {S1 : Sset} {b : Addr} (I : SI G g σ H env S P) (I' : SI G g σ H1 env1 S1 P) (hb : H b = none) (ho : Own G H1 S1 b d) (ht : ∀ (j : Nat) (e : D) (t : Tag), env1[j]? = some (some (e, t)) → ∃ e', env[j]? = some (some (e', t))) : SI G g σ H1 env1 S1 ((b, d) :: P) := by
  refine I'.push ho (I.okNew hb) (fun p hp q => ?_) fun i e t ht' h q => ?_
  · obtain ⟨o, ho⟩ := (I.pend p hp).1.2.some
    rw [q, hb] at ho; cases ho
  · obtain ⟨e', h⟩ := ht i e t h
    obtain ⟨b', h1, h2, _⟩ := I.own i e' t ht' h
    rw [h1] at q
    injection q with q; injection q with q; injection q with q
    obtain ⟨o, ho⟩ := h2.2.some
    rw [q, hb] at ho; cases ho

/-! ### a def's entry -/
def startE (n : Nat) (io : Bool) (ds : List D) : EV :=
  (match io, ds with
    | true, d :: r => some (d, Tag.p) :: r.map fun x => some (x, Tag.s)
    | _, ds => ds.map fun x => some (x, Tag.s)) ++ List.replicate (n - ds.length) none
/-! ### a comprehension's slots -/
def wipeE (env : EV) : List Nat → EV
  | [] => env
  | i :: r => (wipeE env r).set i none
theorem wipeE_length (env : EV) : ∀ vs : List Nat, (wipeE env vs).length = env.length
  | [] => rfl
  | i :: r => by unfold wipeE; rw [List.length_set]; exact wipeE_length env r
theorem wipeE_some {x : D × Tag} {i : Nat} : ∀ {vs : List Nat}, (wipeE env vs)[i]? = some (some x) → env[i]? = some (some x) ∧ i ∉ vs
  | [], h => ⟨h, by simp⟩
  | j :: r, h => by
    unfold wipeE at h
    rcases get_set h with ⟨_, q⟩ | ⟨q, h⟩
    · cases q
    · obtain ⟨h1, h2⟩ := wipeE_some h
      exact ⟨h1, fun z => (List.mem_cons.mp z).elim (fun z => q z.symm) h2⟩
theorem wipeE_out {i : Nat} : ∀ {vs : List Nat}, i ∉ vs → (wipeE env vs)[i]? = env[i]?
  | [], _ => rfl
  | j :: r, h => by
    unfold wipeE
    rw [List.getElem?_set_ne (show j ≠ i from fun z => h (z ▸ List.mem_cons_self))]
    exact wipeE_out fun z => h (List.mem_cons_of_mem _ z)
/-- other slots -/
theorem SI.rew {σ' : St} {vs : List Nat} (I : SI G g σ H env S P) (hl : σ'.length = σ.length) (h0 : 0 ∉ vs) (e : ∀ i, i ∉ vs → σ'[i]? = σ[i]?) : SI G g σ' H (wipeE env vs) S P := by
  refine ⟨by rw [wipeE_length, I.len, hl], fun i d h => ?_, fun i d t ht h => ?_, fun i j d d' t u a ht hu h h' q q' => ?_, fun i d h => ?_, fun a h hn => ?_, I.pend, I.pun, fun p hp i d t ht h => ?_, I.fr, I.sh0, I.sh1, I.shH, I.tab, I.nt⟩
  · obtain ⟨h1, h2⟩ := wipeE_some h
    rw [e i h2]; exact I.shr i d h1
  · obtain ⟨h1, h2⟩ := wipeE_some h
    rw [e i h2]; exact I.own i d t ht h1
  · obtain ⟨h1, h2⟩ := wipeE_some h
    obtain ⟨h1', h2'⟩ := wipeE_some h'
    rw [e i h2] at q
    rw [e j h2'] at q'
    exact I.uniq i j d d' t u a ht hu h1 h1' q q'
  · obtain ⟨h1, h2⟩ := wipeE_some h
    obtain ⟨q1, a, q2, q3⟩ := I.pin i d h1
    exact ⟨q1, a, by rw [e 0 h0]; exact q2, q3⟩
  · obtain ⟨d, q⟩ := I.pin0 a h hn
    exact ⟨d, by rw [wipeE_out h0]; exact q⟩
  · obtain ⟨h1, h2⟩ := wipeE_some h
    rw [e i h2]; exact I.pdis p hp i d t ht h1
end
end DL

set_option Elab.async false
set_option linter.all false
set_option maxRecDepth 100000
set_option maxHeartbeats 1000000
/-! DL2: results, the judgement of expressions over data (DE), operands, operators, tests. -/
namespace DL
open PySem L2
inductive RE where
  | ok (d : D) (o : Bool) (e : EV) | exc (c : Nat) (fs : List D) (e : EV) | bad
inductive RS where
  | nx (e : EV) | rt (d : D) (o : Bool) (e : EV) | bk (e : EV) | ct (e : EV) | exc (c : Nat) (fs : List D) (e : EV) | bad
inductive RC where
  | ok (d : D) (o : Bool) (f : Option D) | exc (c : Nat) (fs : List D) (f : Option D) | bad
abbrev ME := EV → RE
abbrev MS := EV → RS
abbrev FN := List D → RC

/-- a result's value: shared, or a new root of the frame's -/
def Val (G : Ctx) (g : Gh) (σ : St) (H : Hp) (env : EV) (S : Sset) (P : List (Addr × D)) (v : V) (d : D) : Bool → Prop
  | false => SI G g σ H env S P ∧ Rep G H S v d
  | true => ∃ a, v = .ref a ∧ SI G g σ H env S ((a, d) :: P)
/-- an exception's class and dict stand for c and fs -/
def ExcRep (G : Ctx) (H : Hp) (S : Sset) (cls : Value) (dd : Option Addr) (c : Nat) (fs : List D) : Prop :=
  cls = .ref (G.C c) ∧ ∃ b vs, dd = some b ∧ S b ∧ H b = some (.xd ((G.F c).zip vs)) ∧ vs.length ≤ (G.F c).length ∧ RepL G H S vs fs
def PostE (G : Ctx) (W : WX) (g : Gh) (σ : St) (H : Hp) (S : Sset) (P : List (Addr × D)) (Q : VK) : RE → Prop
  | .ok d o e => ∀ v H' S', Grow S H S' H' → Val G g σ H' e S' P v d o → Q v H'
  | .exc c fs e => ∀ cls dd H' S', Grow S H S' H' → SI G g σ H' e S' P → ExcRep G H' S' cls dd c fs → W cls dd σ H'
  | .bad => False
def trE (G : Ctx) (W : WX) (m : ME) : TE := fun σ H Q => ∃ g env S P, SI G g σ H env S P ∧ PostE G W g σ H S P Q (m env)
abbrev DE (X : Cx) (G : Ctx) (W : WX) (e : Expr) (m : ME) := PE X e (trE G W m)

theorem peImp {X : Cx} {e : Expr} {t t' : TE} (h : PE X e t) (i : ∀ σ H Q, t' σ H Q → t σ H Q) : PE X e t' := ⟨fun pins s σ H Q I q => h.run pins s σ H Q I (i _ _ _ q)⟩
theorem ptImp {X : Cx} {e : Expr} {t t' : TT} (h : PT X e t) (i : ∀ σ H Q, t' σ H Q → t σ H Q) : PT X e t' := ⟨fun pins s σ H Q I q => h.run pins s σ H Q I (i _ _ _ q)⟩
theorem psImp {X : Cx} {e : Stmt} {t t' : TS} (h : PS X e t) (i : ∀ D σ H, t' D σ H → t D σ H) : PS X e t' := ⟨fun pins s σ H Q I q => h.run pins s σ H Q I (i _ _ _ q)⟩
theorem pssImp {X : Cx} {e : List Stmt} {t t' : TS} (h : PSs X e t) (i : ∀ D σ H, t' D σ H → t D σ H) : PSs X e t' := ⟨fun pins s σ H Q I q => h.run pins s σ H Q I (i _ _ _ q)⟩
theorem paImp {X : Cx} {e : List Expr} {t t' : TA} (h : PA X e t) (i : ∀ σ H Q, t' σ H Q → t σ H Q) : PA X e t' := ⟨fun pos pins s σ H Q I q => h.run pos pins s σ H Q I (i _ _ _ q)⟩

section
variable {X : Cx} {G : Ctx} {W : WX} {g : Gh} {σ : St} {H H1 : Hp} {env env1 : EV} {S S1 : Sset} {P : List (Addr × D)} {Q R : VK} {v : V} {d : D} {o : Bool}
theorem PostE.mono {r : RE} (gr : Grow S H S1 H1) (h : PostE G W g σ H S P Q r) : PostE G W g σ H1 S1 P Q r := by
  cases r with
  | ok d o e => exact fun v H' S' g' q => h v H' S' (gr.trans g') q
  | exc c fs e => exact fun cls dd H' S' g' q r => h cls dd H' S' (gr.trans g') q r
  | bad => exact h
/-- any result, given away -/
theorem Val.frz (h : Val G g σ H env S P v d o) : ∃ S', Grow S H S' H ∧ SI G g σ H env S' P ∧ Rep G H S' v d := by
  cases o with
  | false => exact ⟨S, Grow.rfl', h⟩
  | true =>
    obtain ⟨a, rfl, I⟩ := h
    exact ⟨_, grow_one S H, I.freeze⟩
/-- a constant answer -/
theorem trE.pure (I : SI G g σ H env S P) (r : Rep G H S v d) (h : PostE G W g σ H S P Q (.ok d false env1)) (e : env1 = env) : Q v H := by
  subst e
  exact h v H S Grow.rfl' ⟨I, r⟩
def bindE (m : ME) (k : D → ME) : ME := fun env => match m env with
  | .ok d _ e => k d e
  | .exc c fs e => .exc c fs e
  | .bad => .bad
def bindV (m : ME) (k : D → Bool → ME) : ME := fun env => match m env with
  | .ok d o e => k d o e
  | .exc c fs e => .exc c fs e
  | .bad => .bad
theorem bindE_ok {m : ME} {k : D → ME} (I : SI G g σ H env S P) (h : PostE G W g σ H S P Q (bindE m k env))
    (hk : ∀ d env1 v H1 S1, Grow S H S1 H1 → SI G g σ H1 env1 S1 P → Rep G H1 S1 v d → PostE G W g σ H1 S1 P Q (k d env1) → R v H1) : trE G W m σ H R := by
  refine ⟨g, env, S, P, I, ?_⟩
  unfold bindE at h
  cases q : m env with
  | ok d o e =>
    rw [q] at h
    intro v H1 S1 gr hv
    obtain ⟨S2, g2, I2, r2⟩ := hv.frz
    exact hk d e v H1 S2 (gr.trans g2) I2 r2 (h.mono (gr.trans g2))
  | exc c fs e => rw [q] at h; exact h
  | bad => rw [q] at h; exact h
theorem bindV_ok {m : ME} {k : D → Bool → ME} (I : SI G g σ H env S P) (h : PostE G W g σ H S P Q (bindV m k env))
    (hk : ∀ d o env1 v H1 S1, Grow S H S1 H1 → Val G g σ H1 env1 S1 P v d o → PostE G W g σ H1 S1 P Q (k d o env1) → R v H1) : trE G W m σ H R := by
  refine ⟨g, env, S, P, I, ?_⟩
  unfold bindV at h
  cases q : m env with
  | ok d o e =>
    rw [q] at h
    intro v H1 S1 gr hv
    exact hk d o e v H1 S1 gr hv (h.mono gr)
  | exc c fs e => rw [q] at h; exact h
  | bad => rw [q] at h; exact h

/-! ### names and constants -/
def mC (d : D) : ME := fun env => .ok d false env
def scalV : D → Option V
  | .non => some .non | .bl b => some (.bl b) | .int i => some (.int i) | .str x => if sOk x then some (.str x) else none | _ => none
theorem scalV_rep {d : D} {v : V} (h : scalV d = some v) : Rep G H S v d := by
  cases d <;> first
    | (injection h with h; subst h; constructor)
    | (simp only [scalV] at h; split at h <;> first | (injection h with h; subst h; exact .str (by assumption)) | cases h)
    | cases h
theorem de_c {e : Expr} (h : PE X e (tC v)) (r : scalV d = some v) : DE X G W e (mC d) := peImp h fun σ H Q ⟨g, env, S, P, I, q⟩ => trE.pure I (scalV_rep r) q rfl
theorem de_int {i j pos} : DE X G W (.Constant (.int i) j pos) (mC (.int i)) := de_c pe_int rfl
theorem de_bl {i j pos} : DE X G W (.Constant (.bool i) j pos) (mC (.bl i)) := de_c pe_bl rfl
theorem de_non {j pos} : DE X G W (.Constant .none j pos) (mC .non) := de_c pe_non rfl
theorem de_str {i j pos} (h : sOk i := by decide +kernel) : DE X G W (.Constant (.str i) j pos) (mC (.str i)) := de_c pe_str (if_pos h)
/-- a name of the frame, given away -/
def mV (i : Nat) : ME := fun env => match env[i]? with
  | some (some (d, .s)) => .ok d false env
  | some (some (d, .o)) => .ok d false (env.set i (some (d, .s)))
  | _ => .bad
theorem de_v {i : Nat} {x : Str} {pos : Pos} (h : PE X (.Name x pos) (tVar i)) : DE X G W (.Name x pos) (mV i) := peImp h fun σ H Q ⟨g, env, S, P, I, q⟩ => by
  unfold mV at q
  cases e : env[i]? with
  | none => rw [e] at q; exact q.elim
  | some r =>
    rw [e] at q
    cases r with
    | none => exact q.elim
    | some dt =>
      obtain ⟨d, t⟩ := dt
      cases t with
      | s =>
        obtain ⟨v, h1, h2⟩ := I.shr i d e
        exact ⟨v, h1, q v H S Grow.rfl' ⟨I, h2⟩⟩
      | o =>
        obtain ⟨a, h1, h2, h3⟩ := I.freezeVar e
        exact ⟨.ref a, h1, q _ H _ (grow_one S H) ⟨h2, h3⟩⟩
      | p => exact q.elim
/-- a name of the frame, moved out (the last thing a def does with it) -/
def mMv (i : Nat) : ME := fun env => match env[i]? with
  | some (some (d, .s)) => .ok d false env
  | some (some (d, .o)) => .ok d true (env.set i none)
  | _ => .bad

/-! ### operands -/
inductive Opn where
  | pl (i : Nat) | ex (m : ME)
/-- an operand that was evaluated: a place, or data -/
inductive Opd where
  | pl (i : Nat) | da (d : D)
def dat : Opd → EV → Option D
  | .pl i, env => match env[i]? with | some (some (d, _)) => some d | _ => none
  | .da d, _ => some d
def bindO (o : Opn) (k : Opd → ME) : ME := match o with
  | .pl i => fun env => match env[i]? with | some (some _) => k (.pl i) env | _ => .bad
  | .ex m => bindE m fun d => k (.da d)
def DO (X : Cx) (G : Ctx) (W : WX) (e : Expr) : Opn → Prop
  | .pl i => PE X e (tVar i)
  | .ex m => DE X G W e m
def tO (G : Ctx) (W : WX) : Opn → TE
  | .pl i => tVar i
  | .ex m => trE G W m
theorem DO.pe {e : Expr} {o : Opn} (h : DO X G W e o) : PE X e (tO G W o) := by cases o <;> exact h
def HoldO (G : Ctx) (σ : St) (H : Hp) (S : Sset) (v : V) : Opd → Prop
  | .pl i => σ[i]? = some (some v)
  | .da d => Rep G H S v d
theorem HoldO.mono {p : Opd} (gr : Grow S H S1 H1) (h : HoldO G σ H S v p) : HoldO G σ H1 S1 v p := by
  cases p with
  | pl i => exact h
  | da d => exact Rep.mono gr h
theorem Rep.b (h : Rep G H S v d) : RepB G H S v d := .inl h
theorem dat_ok {p : Opd} (I : SI G g σ H env S P) (h : HoldO G σ H S v p) (e : dat p env = some d) : RepB G H S v d := by
  cases p with
  | da d' => injection e with e; subst e; exact .inl h
  | pl i =>
    simp only [dat] at e
    cases q : env[i]? with
    | none => simp only [q] at e; cases e
    | some r =>
      simp only [q] at e
      cases r with
      | none => cases e
      | some dt =>
        obtain ⟨d', t⟩ := dt
        injection e with e
        have e : d' = d := e
        subst e
        by_cases ht : t = .s
        · subst ht
          obtain ⟨w, h1, h2⟩ := I.shr i d' q
          have h : σ[i]? = some (some v) := h
          rw [h1] at h; injection h with h; injection h with h; subst h
          exact .inl h2
        · obtain ⟨a, h1, h2, _⟩ := I.own i d' t ht q
          have h : σ[i]? = some (some v) := h
          rw [h1] at h; injection h with h; injection h with h; subst h
          exact .inr ⟨a, rfl, h2.2⟩
theorem bindO_ok {o : Opn} {k : Opd → ME} (I : SI G g σ H env S P) (h : PostE G W g σ H S P Q (bindO o k env))
    (hk : ∀ p env1 v H1 S1, Grow S H S1 H1 → SI G g σ H1 env1 S1 P → HoldO G σ H1 S1 v p → PostE G W g σ H1 S1 P Q (k p env1) → R v H1) : tO G W o σ H R := by
  cases o with
  | ex m =>
    exact bindE_ok (R := R) I h fun d env1 v H1 S1 gr I1 r q => hk (.da d) env1 v H1 S1 gr I1 r q
  | pl i =>
    unfold bindO at h
    cases q : env[i]? with
    | none => simp only [q] at h; exact h.elim
    | some r =>
      cases r with
      | none => simp only [q] at h; exact h.elim
      | some dt =>
        simp only [q] at h
        obtain ⟨d, t⟩ := dt
        obtain ⟨v, hv⟩ : ∃ v, σ[i]? = some (some v) := by
          by_cases ht : t = .s
          · subst ht
            obtain ⟨w, h1, _⟩ := I.shr i d q
            exact ⟨w, h1⟩
          · obtain ⟨a, h1, _⟩ := I.own i d t ht q
            exact ⟨_, h1⟩
        exact ⟨v, hv, hk (.pl i) env v H S Grow.rfl' I hv h⟩

/-! ### what a primitive does: new objects, one of them the answer -/
abbrev RP := Option (D × Bool)
def New (G : Ctx) (H : Hp) (S : Sset) (v : V) (H' : Hp) (d : D) (o : Bool) : Prop :=
  Ext H H' ∧ ∃ N : Sset, (∀ b, N b → H b = none ∧ ∃ u, H' b = some u ∧ NT u) ∧
    match o with
    | false => Rep G H' (Or1 S N) v d
    | true => ∃ a, v = .ref a ∧ H a = none ∧ ¬ N a ∧ At G H' (Or1 S N) a d
theorem New.val (I : SI G g σ H env S P) (h : New G H S v H1 d o) : ∃ S1, Grow S H S1 H1 ∧ Val G g σ H1 env S1 P v d o := by
  obtain ⟨e, N, hN, h⟩ := h
  refine ⟨Or1 S N, I.grow e _ fun b h => .inl h, ?_⟩
  cases o with
  | false => exact ⟨I.ext e hN, h⟩
  | true =>
    obtain ⟨a, h1, h2, h3, h4⟩ := h
    exact ⟨a, h1, I.extOwn e hN h2 h3 h4⟩
theorem or1_nul (S : Sset) : Or1 S Nul = S := by
  funext a; exact propext ⟨fun h => h.elim id False.elim, .inl⟩
/-- nothing new -/
theorem New.same (r : Rep G H S v d) : New G H S v H d false := ⟨Ext.rfl', Nul, fun _ h => h.elim, by
  show Rep G H (Or1 S Nul) v d
  rw [or1_nul]; exact r⟩
/-- one new root -/
theorem New.root {p : Addr} {u : HO} (hp : H p = none) (h : At G (L2.upd H p u) S p d) : New G H S (.ref p) (L2.upd H p u) d true := ⟨Ext.upd hp, Nul, fun _ h => h.elim, p, rfl, hp, id, by
  rw [or1_nul]; exact h⟩
theorem grow_upd {p : Addr} {u : HO} (hS : ∀ a, S a → ∃ o, H a = some o) (hp : H p = none) : Grow S H S (L2.upd H p u) := fun a ha => ⟨ha, by
  obtain ⟨o, ho⟩ := hS a ha
  exact upd_ne (ne_of_none ho hp)⟩
def liftP (r : RP) : ME := fun env => match r with
  | some (d, o) => .ok d o env
  | none => .bad
theorem liftP_ok {r : RP} (I : SI G g σ H env S P) (h : PostE G W g σ H S P Q (liftP r env)) : ∃ d o, r = some (d, o) ∧ ∀ v H', New G H S v H' d o → Q v H' := by
  unfold liftP at h
  cases r with
  | none => exact h.elim
  | some dt =>
    obtain ⟨d, o⟩ := dt
    refine ⟨d, o, rfl, fun v H' n => ?_⟩
    obtain ⟨S1, gr, hv⟩ := n.val I
    exact h v H' S1 gr hv

/-- a two-place primitive: the rule r is met wherever p answers; hS: what is shared stands -/
def P2 (G : Ctx) (r : R2) (p : D → D → RP) : Prop := ∀ (H : Hp) (S : Sset) (v w : V) (x y d : D) (o : Bool) (Q : VK), (∀ a, S a → ∃ u, H a = some u) → RepB G H S v x → RepB G H S w y → p x y = some (d, o) → (∀ v' H', New G H S v' H' d o → Q v' H') → r v w H Q
def mO2 (p : D → D → RP) (a b : Opn) : ME := bindO a fun pa => bindO b fun pb env => match dat pa env, dat pb env with
  | some x, some y => liftP (p x y) env
  | _, _ => .bad
theorem tO2 {r : R2} {p : D → D → RP} {a b : Opn} (hp : P2 G r p) (h : trE G W (mO2 p a b) σ H Q) : tOp r (tO G W a) (tO G W b) σ H Q := by
  obtain ⟨g, env, S, P, I, h⟩ := h
  refine bindO_ok I h fun pa env1 v H1 S1 g1 I1 ha h => ?_
  refine bindO_ok I1 h fun pb env2 w H2 S2 g2 I2 hb h => ?_
  have ha := ha.mono g2
  cases ea : dat pa env2 with
  | none => simp only [ea] at h; exact h.elim
  | some x =>
    cases eb : dat pb env2 with
    | none => simp only [ea, eb] at h; exact h.elim
    | some y =>
      simp only [ea, eb] at h
      obtain ⟨d, o, e, k⟩ := liftP_ok I2 h
      exact hp H2 S2 v w x y d o Q I2.shH (dat_ok I2 ha ea) (dat_ok I2 hb eb) e k
theorem de_op {op : Operator} {r : R2} {p : D → D → RP} {a b : Expr} {oa ob : Opn} {pos : Pos} (ho : OpR X (binaryOp op) r) (hp : P2 G r p) (ha : DO X G W a oa) (hb : DO X G W b ob) : DE X G W (.BinOp a op b pos) (mO2 p oa ob) :=
  peImp (pe_op ho ha.pe hb.pe) fun _ _ _ h => tO2 hp h
theorem de_cmp {op : CmpOp} {r : R2} {p : D → D → RP} {a b : Expr} {oa ob : Opn} {pos : Pos} (ho : OpR X (compareOp op) r) (hp : P2 G r p) (ha : DO X G W a oa) (hb : DO X G W b ob) (hm : behindInMarks op b = false) : DE X G W (.Compare a [op] [b] pos) (mO2 p oa ob) :=
  peImp (pe_cmpR ho ha.pe hb.pe hm) fun _ _ _ h => tO2 hp h
/-- a one-place primitive -/
def P1 (G : Ctx) (r : V → Hp → VK → Prop) (p : D → RP) : Prop := ∀ (H : Hp) (S : Sset) (v : V) (x d : D) (o : Bool) (Q : VK), (∀ a, S a → ∃ u, H a = some u) → RepB G H S v x → p x = some (d, o) → (∀ v' H', New G H S v' H' d o → Q v' H') → r v H Q
def mO1 (p : D → RP) (a : Opn) : ME := bindO a fun pa env => match dat pa env with
  | some x => liftP (p x) env
  | _ => .bad
theorem tO1 {r : V → Hp → VK → Prop} {p : D → RP} {a : Opn} (hp : P1 G r p) (h : trE G W (mO1 p a) σ H Q) : tUn r (tO G W a) σ H Q := by
  obtain ⟨g, env, S, P, I, h⟩ := h
  refine bindO_ok I h fun pa env1 v H1 S1 g1 I1 ha h => ?_
  cases ea : dat pa env1 with
  | none => simp only [ea] at h; exact h.elim
  | some x =>
    simp only [ea] at h
    obtain ⟨d, o, e, k⟩ := liftP_ok I1 h
    exact hp H1 S1 v x d o Q I1.shH (dat_ok I1 ha ea) e k
theorem de_un {op : UnaryOp} {r : V → Hp → VK → Prop} {p : D → RP} {a : Expr} {oa : Opn} {pos : Pos} (ho : UnR X (unaryOp op) r) (hp : P1 G r p) (ha : DO X G W a oa) : DE X G W (.UnaryOp op a pos) (mO1 p oa) :=
  peImp (pe_un ho ha.pe) fun _ _ _ h => tO1 hp h
end
end DL

set_option Elab.async false
set_option linter.all false
set_option maxRecDepth 100000
set_option maxHeartbeats 1000000
/-! DL3: tests, and | or | not, built-in calls, attributes, displays. -/
namespace DL
open PySem L2
inductive RB where
  | ok (b : Bool) (e : EV) | exc (c : Nat) (fs : List D) (e : EV) | bad
abbrev MT := EV → RB
def PostT (G : Ctx) (W : WX) (g : Gh) (σ : St) (H : Hp) (S : Sset) (P : List (Addr × D)) (Q : Bool → Hp → Prop) : RB → Prop
  | .ok b e => ∀ H' S', Grow S H S' H' → SI G g σ H' e S' P → Q b H'
  | .exc c fs e => ∀ cls dd H' S', Grow S H S' H' → SI G g σ H' e S' P → ExcRep G H' S' cls dd c fs → W cls dd σ H'
  | .bad => False
def trT (G : Ctx) (W : WX) (m : MT) : TT := fun σ H Q => ∃ g env S P, SI G g σ H env S P ∧ PostT G W g σ H S P Q (m env)
abbrev DT (X : Cx) (G : Ctx) (W : WX) (e : Expr) (m : MT) := PT X e (trT G W m)

def truD : D → Option Bool
  | .non => some false | .bl b => some b | .int i => some (i != 0) | .str x => some ((x.length : Int) != 0)
  | .lst xs => some (!xs.isEmpty) | .tup xs => some (!xs.isEmpty) | .dct xs => some (!xs.isEmpty) | _ => none
section
variable {X : Cx} {G : Ctx} {W : WX} {g : Gh} {σ : St} {H H1 : Hp} {env env1 : EV} {S S1 : Sset} {P : List (Addr × D)} {Q R : VK} {QT RT : Bool → Hp → Prop} {v : V} {d : D} {o : Bool}
theorem PostT.mono {r : RB} (gr : Grow S H S1 H1) (h : PostT G W g σ H S P QT r) : PostT G W g σ H1 S1 P QT r := by
  cases r with
  | ok d e => exact fun H' S' g' q => h H' S' (gr.trans g') q
  | exc c fs e => exact fun cls dd H' S' g' q r => h cls dd H' S' (gr.trans g') q r
  | bad => exact h
theorem RepL.length : ∀ {vs : List V} {ds : List D}, RepL G H S vs ds → vs.length = ds.length
  | _, _, .nil => rfl
  | _, _, .cons _ r => by simp [RepL.length r]
theorem RepK.length : ∀ {vs : List (Key × V)} {ds : List (Key × D)}, RepK G H S vs ds → vs.length = ds.length
  | _, _, .nil => rfl
  | _, _, .cons _ _ r => by simp [RepK.length r]
theorem RepL.empty {vs : List V} {ds : List D} (h : RepL G H S vs ds) : vs.isEmpty = ds.isEmpty := by cases h <;> rfl
theorem RepK.empty {vs : List (Key × V)} {ds : List (Key × D)} (h : RepK G H S vs ds) : vs.isEmpty = ds.isEmpty := by cases h <;> rfl
theorem RepL.get : ∀ {vs : List V} {ds : List D} {i : Nat} {d : D}, RepL G H S vs ds → ds[i]? = some d → ∃ v, vs[i]? = some v ∧ Rep G H S v d
  | _, _, _, _, .nil, e => by simp at e
  | _, _, 0, _, .cons r _, e => by simp at e; subst e; exact ⟨_, rfl, r⟩
  | _, _, i + 1, d, .cons _ t, e => by
    obtain ⟨u, h1, h2⟩ := RepL.get (i := i) (d := d) t (by simpa using e)
    exact ⟨u, by simpa using h1, h2⟩
theorem RepL.getV : ∀ {vs : List V} {ds : List D} {i : Nat} {v : V}, RepL G H S vs ds → vs[i]? = some v → ∃ d, ds[i]? = some d ∧ Rep G H S v d
  | _, _, _, _, .nil, e => by simp at e
  | _, _, 0, _, .cons r _, e => by simp at e; subst e; exact ⟨_, rfl, r⟩
  | _, _, i + 1, v, .cons _ t, e => by
    obtain ⟨u, h1, h2⟩ := RepL.getV (i := i) (v := v) t (by simpa using e)
    exact ⟨u, by simpa using h1, h2⟩
theorem RepL.append : ∀ {vs ws : List V} {ds es : List D}, RepL G H S vs ds → RepL G H S ws es → RepL G H S (vs ++ ws) (ds ++ es)
  | _, _, _, _, .nil, h => h
  | _, _, _, _, .cons r t, h => .cons r (RepL.append t h)
theorem RepL.take : ∀ {vs : List V} {ds : List D} (n : Nat), RepL G H S vs ds → RepL G H S (vs.take n) (ds.take n)
  | _, _, 0, _ => .nil
  | _, _, _ + 1, .nil => .nil
  | _, _, n + 1, .cons r t => .cons r (RepL.take n t)
theorem RepL.drop : ∀ {vs : List V} {ds : List D} (n : Nat), RepL G H S vs ds → RepL G H S (vs.drop n) (ds.drop n)
  | _, _, 0, r => r
  | _, _, _ + 1, .nil => .nil
  | _, _, n + 1, .cons _ t => RepL.drop n t
theorem RepL.set {v : V} {d : D} (r : Rep G H S v d) : ∀ {vs : List V} {ds : List D} (i : Nat), RepL G H S vs ds → RepL G H S (vs.set i v) (ds.set i d)
  | _, _, _, .nil => .nil
  | _, _, 0, .cons _ t => .cons r t
  | _, _, i + 1, .cons q t => .cons q (RepL.set r i t)
theorem RepL.rev : ∀ {vs : List V} {ds : List D}, RepL G H S vs ds → RepL G H S vs.reverse ds.reverse
  | _, _, .nil => .nil
  | _, _, .cons r t => by rw [List.reverse_cons, List.reverse_cons]; exact (RepL.rev t).append (.cons r .nil)
theorem RepL.erase : ∀ {vs : List V} {ds : List D} (i : Nat), RepL G H S vs ds → RepL G H S (vs.eraseIdx i) (ds.eraseIdx i)
  | _, _, _, .nil => .nil
  | _, _, 0, .cons _ t => t
  | _, _, i + 1, .cons q t => .cons q (RepL.erase i t)
/-! what a read root holds -/
theorem RepB.lst {ds : List D} (h : RepB G H S v (.lst ds)) : ∃ a vs, v = .ref a ∧ H a = some (.lst vs) ∧ vs.length ≤ sizeLine ∧ RepL G H S vs ds := by
  rcases h with h | ⟨a, e, vs, h1, h2, h3⟩
  · cases h with
    | lst s h l r => exact ⟨_, _, rfl, h, l, r⟩
  · exact ⟨a, vs, e, h1, h2, h3⟩
theorem RepB.dct {ds : List (Key × D)} (h : RepB G H S v (.dct ds)) : ∃ a vs, v = .ref a ∧ H a = some (.dK vs) ∧ vs.length ≤ sizeLine ∧ RepK G H S vs ds := by
  rcases h with h | ⟨a, e, vs, h1, h2, h3⟩
  · cases h with
    | dct s h l r => exact ⟨_, _, rfl, h, l, r⟩
  · exact ⟨a, vs, e, h1, h2, h3⟩
theorem RepB.obj {c : Nat} {ds : List D} (h : RepB G H S v (.obj c ds)) : ∃ a dx vs, v = .ref a ∧ H a = some (.ins (G.C c) dx ((G.F c).zip vs)) ∧ vs.length ≤ (G.F c).length ∧ RepL G H S vs ds := by
  rcases h with h | ⟨a, e, dx, vs, h1, h2, h3⟩
  · cases h with
    | obj s h l r => exact ⟨_, _, _, rfl, h, l, r⟩
  · exact ⟨a, dx, vs, e, h1, h2, h3⟩
theorem RepB.int {i : Int} (h : RepB G H S v (.int i)) : v = .int i := by
  rcases h with h | ⟨a, e, h⟩
  · cases h; rfl
  · exact h.elim
theorem RepB.bl {i : Bool} (h : RepB G H S v (.bl i)) : v = .bl i := by
  rcases h with h | ⟨a, e, h⟩
  · cases h; rfl
  · exact h.elim
theorem RepB.non (h : RepB G H S v .non) : v = .non := by
  rcases h with h | ⟨a, e, h⟩
  · cases h; rfl
  · exact h.elim
theorem RepB.str {x : Str} (h : RepB G H S v (.str x)) : v = .str x ∧ sOk x := by
  rcases h with h | ⟨a, e, h⟩
  · cases h with
    | str h => exact ⟨rfl, h⟩
  · exact h.elim
theorem RepB.tup {K : PySem.W.Frag} {ds : List D} (hK : G.K = K) (h : RepB G H S v (.tup ds)) : ∃ a vs, v = .ref a ∧ SqT K H a vs ∧ vs.length ≤ sizeLine ∧ RepL G H S vs ds := by
  subst hK
  rcases h with h | ⟨a, e, h⟩
  · cases h with
    | tup s h l r => exact ⟨_, _, rfl, SqT.of h, l, r⟩
    | ktup k r =>
      refine ⟨_, _, rfl, .inr k, ?_, r⟩
      obtain ⟨o, its, n, h1, h2, h3, h4, h5⟩ := k
      have := h5.length
      simp only [Array.length_toList] at this
      omega
  · exact h.elim
theorem RepB.scr {ns : List Int} (h : RepB G H S v (.scr ns)) : ∃ a, v = .ref a ∧ ((∃ o, H a = some (.frz o (.lst (ns.map V.int)))) ∨ KLst G.K a (ns.map V.int)) ∧ ns.length ≤ sizeLine := by
  rcases h with h | ⟨a, e, h⟩
  · cases h with
    | scr s h l => exact ⟨_, rfl, .inl ⟨_, h⟩, l⟩
    | kscr h l => exact ⟨_, rfl, .inr h, l⟩
  · exact h.elim
theorem scr_sq {K : PySem.W.Frag} {a : Addr} {xs : List V} (hK : G.K = K) (h : (∃ o, H a = some (.frz o (.lst xs))) ∨ KLst G.K a xs) : SqL K H a xs := by
  subst hK
  rcases h with ⟨o, h⟩ | h
  · exact .inl (.inr ⟨o, h⟩)
  · exact .inr h
theorem tru_ok' {K : PySem.W.Frag} {b : Bool} (hK : G.K = K) (h : RepB G H S v d) (e : truD d = some b) : TruV K v H b := by
  cases d <;> simp only [truD] at e <;> (try cases e)
  case non => rw [h.non]; rfl
  case bl => rw [h.bl]; rfl
  case int => rw [h.int]; rfl
  case str => obtain ⟨rfl, h2⟩ := h.str; exact ⟨h2.1, rfl⟩
  case tup => obtain ⟨a, vs, rfl, h2, h3, h4⟩ := h.tup hK; exact .inr (.inl ⟨vs, h2, by rw [h4.empty]⟩)
  case lst => obtain ⟨a, vs, rfl, h2, h3, h4⟩ := h.lst; exact .inl ⟨vs, SqL.of h2, by rw [h4.empty]⟩
  case dct => obtain ⟨a, vs, rfl, h2, h3, h4⟩ := h.dct; exact .inr (.inr ⟨vs, h2, by rw [h4.empty]⟩)

/-! ### tests -/
/-- a value that is a bool, as a test -/
def mT (m : ME) : MT := fun env => match m env with
  | .ok d _ e => match d with
    | .bl b => .ok b e
    | _ => .bad
  | .exc c fs e => .exc c fs e
  | .bad => .bad
theorem mT_ok {m : ME} (h : trT G W (mT m) σ H QT) : trE G W m σ H (fun x H' => ∃ k, x = .bl k ∧ QT k H') := by
  obtain ⟨g, env, S, P, I, h⟩ := h
  refine ⟨g, env, S, P, I, ?_⟩
  unfold mT at h
  cases q : m env with
  | ok d o e =>
    simp only [q] at h
    intro v H1 S1 gr hv
    cases d with
    | bl b =>
      cases o with
      | false =>
        obtain ⟨I1, r⟩ := hv
        cases r
        exact ⟨b, rfl, h H1 S1 gr I1⟩
      | true =>
        obtain ⟨a, _, I1⟩ := hv
        exact (I1.pend _ List.mem_cons_self).1.2.elim
    | _ => exact h.elim
  | exc c fs e => simp only [q] at h; exact h
  | bad => simp only [q] at h; exact h
theorem dt_val {e : Expr} {m : ME} (h : DE X G W e m) (he : ∀ whole, isTrue e X.env whole = (do let v ← whole; standAt e.pos; holding [v] (truthy v)) := by intro _; rfl) : DT X G W e (mT m) :=
  ptImp (pt_val h he) fun _ _ _ h => mT_ok h
theorem dt_cmp {op : CmpOp} {r : R2} {p : D → D → RP} {a b : Expr} {oa ob : Opn} {pos : Pos} (ho : OpR X (compareOp op) r) (hp : P2 G r p) (ha : DO X G W a oa) (hb : DO X G W b ob) (hm : behindInMarks op b = false) : DT X G W (.Compare a [op] [b] pos) (mT (mO2 p oa ob)) :=
  ptImp (pt_cmpR ho ha.pe hb.pe hm) fun σ H Q h => tO2 hp (mT_ok h)
/-- any value, as a test -/
def mTr (o : Opn) : MT := fun env => match bindO o (fun p env => match dat p env with
    | some d => match truD d with
      | some b => .ok (.bl b) false env
      | none => .bad
    | none => .bad) env with
  | .ok (.bl b) _ e => .ok b e
  | .exc c fs e => .exc c fs e
  | _ => .bad
theorem dt_truth {e : Expr} {a : Opn} (hK : G.K = X.K) (h : DO X G W e a) (he : ∀ whole, isTrue e X.env whole = (do let v ← whole; standAt e.pos; holding [v] (truthy v)) := by intro _; rfl) : DT X G W e (mTr a) :=
  ptImp (pt_truth h.pe he) fun σ H QT h => by
    obtain ⟨g, env, S, P, I, h⟩ := h
    have h' : PostE G W g σ H S P (fun x H' => ∃ k, x = .bl k ∧ QT k H') (bindO a (fun p env => match dat p env with
        | some d => match truD d with
          | some b => .ok (.bl b) false env
          | none => .bad
        | none => .bad) env) := by
      have := (mT_ok (QT := QT) (m := bindO a (fun p env => match dat p env with
        | some d => match truD d with
          | some b => .ok (.bl b) false env
          | none => .bad
        | none => .bad)) (G := G) (W := W) (σ := σ) (H := H) ⟨g, env, S, P, I, by
          unfold mTr at h
          unfold mT
          generalize bindO a _ env = r at h ⊢
          cases r with
          | ok d o e => cases d <;> exact h
          | exc c fs e => exact h
          | bad => exact h⟩)
      revert h
      unfold mTr
      generalize bindO a _ env = r
      intro h
      cases r with
      | ok d o e =>
        intro v H1 S1 gr hv
        cases d with
        | bl b =>
          cases o with
          | false =>
            obtain ⟨I1, r⟩ := hv
            cases r
            exact ⟨b, rfl, h H1 S1 gr I1⟩
          | true =>
            obtain ⟨a, _, I1⟩ := hv
            exact (I1.pend _ List.mem_cons_self).1.2.elim
        | _ => exact h.elim
      | exc c fs e => exact h
      | bad => exact h
    refine bindO_ok I h' fun p env1 v H1 S1 gr I1 hp h => ?_
    cases e1 : dat p env1 with
    | none => simp only [e1] at h; exact h.elim
    | some d =>
      simp only [e1] at h
      cases e2 : truD d with
      | none => simp only [e2] at h; exact h.elim
      | some b =>
        simp only [e2] at h
        obtain ⟨k, e3, q⟩ := h (.bl b) H1 S1 Grow.rfl' ⟨I1, .bl⟩
        cases e3
        exact ⟨b, tru_ok' hK (dat_ok I1 hp e1) e2, q⟩
def bindT (m : MT) (k : Bool → MT) : MT := fun env => match m env with
  | .ok b e => k b e
  | .exc c fs e => .exc c fs e
  | .bad => .bad
theorem bindT_ok {m : MT} {k : Bool → MT} (I : SI G g σ H env S P) (h : PostT G W g σ H S P QT (bindT m k env))
    (hk : ∀ b env1 H1 S1, Grow S H S1 H1 → SI G g σ H1 env1 S1 P → PostT G W g σ H1 S1 P QT (k b env1) → RT b H1) : trT G W m σ H RT := by
  refine ⟨g, env, S, P, I, ?_⟩
  unfold bindT at h
  cases q : m env with
  | ok b e =>
    rw [q] at h
    exact fun H1 S1 gr I1 => hk b e H1 S1 gr I1 (h.mono gr)
  | exc c fs e => rw [q] at h; exact h
  | bad => rw [q] at h; exact h
def mAndT (a b : MT) : MT := bindT a fun k => match k with | true => b | false => fun e => .ok false e
def mOrT (a b : MT) : MT := bindT a fun k => match k with | true => fun e => .ok true e | false => b
def mNotT (a : MT) : MT := bindT a fun k e => .ok (!k) e
/-- a test whatever its 'whole' is -/
abbrev DW (X : Cx) (G : Ctx) (W : WX) (e : Expr) (m : MT) := PW X e (trT G W m)
theorem pwImp {e : Expr} {t t' : TT} (h : PW X e t) (i : ∀ σ H Q, t' σ H Q → t σ H Q) : PW X e t' := ⟨fun w pins s σ H Q I q => h.run w pins s σ H Q I (i _ _ _ q)⟩
variable {a b : Expr} {rest : List Expr} {ma mb : MT} {pos : Pos}
theorem dw_and1 (ha : DT X G W a ma) : DW X G W (.BoolOp .And [a] pos) ma := pw_and1 ha
theorem dw_or1 (ha : DT X G W a ma) : DW X G W (.BoolOp .Or [a] pos) ma := pw_or1 ha
theorem dw_and (ha : DT X G W a ma) (hb : DW X G W (.BoolOp .And (b :: rest) pos) mb) : DW X G W (.BoolOp .And (a :: b :: rest) pos) (mAndT ma mb) :=
  pwImp (pw_and ha hb) fun σ H Q ⟨g, env, S, P, I, h⟩ => bindT_ok I h fun k env1 H1 S1 gr I1 h => by
    cases k with
    | true => exact iteT ⟨g, env1, S1, P, I1, h⟩
    | false => exact iteF (h H1 S1 Grow.rfl' I1)
theorem dw_or (ha : DT X G W a ma) (hb : DW X G W (.BoolOp .Or (b :: rest) pos) mb) : DW X G W (.BoolOp .Or (a :: b :: rest) pos) (mOrT ma mb) :=
  pwImp (pw_or ha hb) fun σ H Q ⟨g, env, S, P, I, h⟩ => bindT_ok I h fun k env1 H1 S1 gr I1 h => by
    cases k with
    | true => exact iteT (h H1 S1 Grow.rfl' I1)
    | false => exact iteF ⟨g, env1, S1, P, I1, h⟩
theorem dt_w (h : DW X G W a ma) : DT X G W a ma := h.pt
theorem dt_not (ha : DT X G W a ma) : DT X G W (.UnaryOp .Not a pos) (mNotT ma) :=
  ptImp (pt_not ha) fun σ H Q ⟨g, env, S, P, I, h⟩ => bindT_ok I h fun k env1 H1 S1 gr I1 h => h H1 S1 Grow.rfl' I1
/-! .. as values -/
def blE (m : ME) (k : Bool → ME) : ME := bindE m fun d => match d with | .bl b => k b | _ => fun _ => .bad
def mAndV (a b : ME) : ME := blE a fun k => match k with | true => b | false => fun e => .ok (.bl false) false e
def mOrV (a b : ME) : ME := blE a fun k => match k with | true => fun e => .ok (.bl true) false e | false => b
def mNotV (a : ME) : ME := blE a fun k e => .ok (.bl (!k)) false e
theorem blE_ok {m : ME} {k : Bool → ME} (I : SI G g σ H env S P) (h : PostE G W g σ H S P Q (blE m k env))
    (hk : ∀ b env1 H1 S1, Grow S H S1 H1 → SI G g σ H1 env1 S1 P → PostE G W g σ H1 S1 P Q (k b env1) → R (.bl b) H1) : trE G W m σ H R :=
  bindE_ok I h fun d env1 v H1 S1 gr I1 r h => by
    cases d with
    | bl b => cases r; exact hk b env1 H1 S1 gr I1 h
    | _ => exact h.elim
variable {ea eb : ME}
theorem de_one {op : BoolOp} (h : DE X G W a ea) : DE X G W (.BoolOp op [a] pos) ea := pe_one h
theorem de_and (ha : DE X G W a ea) (hb : DE X G W (.BoolOp .And (b :: rest) pos) eb) : DE X G W (.BoolOp .And (a :: b :: rest) pos) (mAndV ea eb) :=
  peImp (pe_and ha hb) fun σ H Q ⟨g, env, S, P, I, h⟩ => blE_ok I h fun k env1 H1 S1 gr I1 h => by
    cases k with
    | true => exact ⟨true, rfl, iteT ⟨g, env1, S1, P, I1, h⟩⟩
    | false => exact ⟨false, rfl, iteF (h _ H1 S1 Grow.rfl' ⟨I1, .bl⟩)⟩
theorem de_or (ha : DE X G W a ea) (hb : DE X G W (.BoolOp .Or (b :: rest) pos) eb) : DE X G W (.BoolOp .Or (a :: b :: rest) pos) (mOrV ea eb) :=
  peImp (pe_or ha hb) fun σ H Q ⟨g, env, S, P, I, h⟩ => blE_ok I h fun k env1 H1 S1 gr I1 h => by
    cases k with
    | true => exact ⟨true, rfl, iteT (h _ H1 S1 Grow.rfl' ⟨I1, .bl⟩)⟩
    | false => exact ⟨false, rfl, iteF ⟨g, env1, S1, P, I1, h⟩⟩
theorem de_not (ha : DE X G W a ea) : DE X G W (.UnaryOp .Not a pos) (mNotV ea) :=
  peImp (pe_not ha) fun σ H Q ⟨g, env, S, P, I, h⟩ => blE_ok I h fun k env1 H1 S1 gr I1 h => ⟨k, rfl, h _ H1 S1 Grow.rfl' ⟨I1, .bl⟩⟩
def bindTE (m : MT) (k : Bool → ME) : ME := fun env => match m env with
  | .ok b e => k b e
  | .exc c fs e => .exc c fs e
  | .bad => .bad
theorem bindTE_ok {m : MT} {k : Bool → ME} (I : SI G g σ H env S P) (h : PostE G W g σ H S P Q (bindTE m k env))
    (hk : ∀ b env1 H1 S1, Grow S H S1 H1 → SI G g σ H1 env1 S1 P → PostE G W g σ H1 S1 P Q (k b env1) → RT b H1) : trT G W m σ H RT := by
  refine ⟨g, env, S, P, I, ?_⟩
  unfold bindTE at h
  cases q : m env with
  | ok b e =>
    rw [q] at h
    exact fun H1 S1 gr I1 => hk b e H1 S1 gr I1 (h.mono gr)
  | exc c fs e => rw [q] at h; exact h
  | bad => rw [q] at h; exact h
/-- a if t else b -/
def mIf (t : MT) (a b : ME) : ME := bindTE t fun k => match k with | true => a | false => b
theorem de_if {c : Expr} {mc : MT} (hc : DT X G W c mc) (ha : DE X G W a ea) (hb : DE X G W b eb) : DE X G W (.IfExp c a b pos) (mIf mc ea eb) :=
  peImp (pe_ifExp hc ha hb) fun σ H Q ⟨g, env, S, P, I, h⟩ => bindTE_ok I h fun k env1 H1 S1 gr I1 h => by
    cases k with
    | true => exact iteT ⟨g, env1, S1, P, I1, h⟩
    | false => exact iteF ⟨g, env1, S1, P, I1, h⟩
/-- a op b op' c; b is no place that c changes (all three given away) -/
def mCh (p q : D → D → RP) (a b c : ME) : ME := bindE a fun x => bindE b fun y env => match p x y with
  | some (.bl true, false) => bindE c (fun z => liftP (q y z)) env
  | some (.bl false, false) => .ok (.bl false) false env
  | _ => .bad
theorem tCh {r r' : R2} {p q : D → D → RP} {ec : ME} (hp : P2 G r p) (hq : P2 G r' q) (h : trE G W (mCh p q ea eb ec) σ H Q) : tChain r r' (trE G W ea) (trE G W eb) (trE G W ec) σ H Q := by
  obtain ⟨g, env, S, P, I, h⟩ := h
  refine bindE_ok I h fun x env1 v H1 S1 g1 I1 rx h => ?_
  refine bindE_ok I1 h fun y env2 w H2 S2 g2 I2 ry h => ?_
  cases e : p x y with
  | none => simp only [e] at h; exact h.elim
  | some dt =>
    obtain ⟨d, o⟩ := dt
    cases o with
    | true => cases d <;> simp only [e] at h <;> exact h.elim
    | false =>
      cases d with
      | bl k =>
        refine hp H2 S2 v w x y _ false _ I2.shH (rx.mono g2).b ry.b e fun v' H' n => ?_
        obtain ⟨ex, N, hN, n⟩ := n
        have I3 := I2.ext ex hN
        have gr : Grow S2 H2 (Or1 S2 N) H' := I2.grow ex _ fun _ h => .inl h
        cases n
        refine ⟨k, rfl, ?_⟩
        cases k with
        | true =>
          simp only [e] at h
          refine iteT (bindE_ok I3 (h.mono gr) fun z env3 u H4 S4 g4 I4 rz h => ?_)
          obtain ⟨d, o, e', k⟩ := liftP_ok I4 h
          exact hq H4 S4 w u y z d o Q I4.shH (ry.mono (gr.trans g4)).b rz.b e' k
        | false =>
          simp only [e] at h
          exact iteF ((h.mono gr) _ H' _ Grow.rfl' ⟨I3, .bl⟩)
      | _ => simp only [e] at h; exact h.elim
theorem de_chain {op op' : CmpOp} {r r' : R2} {p q : D → D → RP} {c : Expr} {ec : ME} (ho : OpR X (compareOp op) r) (ho' : OpR X (compareOp op') r') (hp : P2 G r p) (hq : P2 G r' q) (ha : DE X G W a ea) (hb : DE X G W b eb) (hc : DE X G W c ec)
    (hm : lastMarks [op, op'] [b, c] = false := by with_unfolding_all rfl) : DE X G W (.Compare a [op, op'] [b, c] pos) (mCh p q ea eb ec) := peImp (pe_chain ho ho' ha hb hc hm) fun _ _ _ h => tCh hp hq h
theorem dt_chain {op op' : CmpOp} {r r' : R2} {p q : D → D → RP} {c : Expr} {ec : ME} (ho : OpR X (compareOp op) r) (ho' : OpR X (compareOp op') r') (hp : P2 G r p) (hq : P2 G r' q) (ha : DE X G W a ea) (hb : DE X G W b eb) (hc : DE X G W c ec)
    (hm : lastMarks [op, op'] [b, c] = false := by with_unfolding_all rfl) : DT X G W (.Compare a [op, op'] [b, c] pos) (mT (mCh p q ea eb ec)) := ptImp (pt_chain ho ho' ha hb hc hm) fun _ _ _ h => tCh hp hq (mT_ok h)
end
end DL

set_option Elab.async false
set_option linter.all false
set_option maxRecDepth 100000
set_option maxHeartbeats 1000000
/-! DL4: arguments, built-in calls, displays, attributes, items, slices, methods. -/
namespace DL
open PySem L2
inductive RL where
  | ok (ds : List D) (e : EV) | exc (c : Nat) (fs : List D) (e : EV) | bad
def evL : List ME → EV → RL
  | [], env => .ok [] env
  | m :: r, env => match m env with
    | .ok d _ e => match evL r e with
      | .ok ds e' => .ok (d :: ds) e'
      | .exc c fs e' => .exc c fs e'
      | .bad => .bad
    | .exc c fs e => .exc c fs e
    | .bad => .bad
def PostL (G : Ctx) (W : WX) (g : Gh) (σ : St) (H : Hp) (S : Sset) (P : List (Addr × D)) (n : Nat) (Q : List V → Hp → Prop) : RL → Prop
  | .ok ds e => ∀ vs H' S', Grow S H S' H' → SI G g σ H' e S' P → RepL G H' S' vs ds → vs.length = n → Q vs H'
  | .exc c fs e => ∀ cls dd H' S', Grow S H S' H' → SI G g σ H' e S' P → ExcRep G H' S' cls dd c fs → W cls dd σ H'
  | .bad => False
def trL (G : Ctx) (W : WX) (ms : List ME) : TA := fun σ H Q => ∃ g env S P, SI G g σ H env S P ∧ PostL G W g σ H S P ms.length Q (evL ms env)
abbrev DA (X : Cx) (G : Ctx) (W : WX) (es : List Expr) (ms : List ME) := PA X es (trL G W ms)
def bindL (ms : List ME) (k : List D → ME) : ME := fun env => match evL ms env with
  | .ok ds e => k ds e
  | .exc c fs e => .exc c fs e
  | .bad => .bad
section
variable {X : Cx} {G : Ctx} {W : WX} {g : Gh} {σ : St} {H H1 : Hp} {env env1 : EV} {S S1 : Sset} {P : List (Addr × D)} {Q R : VK} {RL' : List V → Hp → Prop} {v : V} {d : D} {o : Bool} {e : Expr} {es : List Expr} {m : ME} {ms : List ME} {pos : Pos} {n : Nat}
theorem PostL.mono {r : RL} (gr : Grow S H S1 H1) (h : PostL G W g σ H S P n RL' r) : PostL G W g σ H1 S1 P n RL' r := by
  cases r with
  | ok d e => exact fun vs H' S' g' q => h vs H' S' (gr.trans g') q
  | exc c fs e => exact fun cls dd H' S' g' q r => h cls dd H' S' (gr.trans g') q r
  | bad => exact h
theorem bindL_ok {k : List D → ME} (I : SI G g σ H env S P) (h : PostE G W g σ H S P Q (bindL ms k env))
    (hk : ∀ ds env1 vs H1 S1, Grow S H S1 H1 → SI G g σ H1 env1 S1 P → RepL G H1 S1 vs ds → vs.length = ms.length → PostE G W g σ H1 S1 P Q (k ds env1) → RL' vs H1) : trL G W ms σ H RL' := by
  refine ⟨g, env, S, P, I, ?_⟩
  unfold bindL at h
  cases q : evL ms env with
  | ok ds e =>
    rw [q] at h
    exact fun vs H1 S1 gr I1 r l => hk ds e vs H1 S1 gr I1 r l (h.mono gr)
  | exc c fs e => rw [q] at h; exact h
  | bad => rw [q] at h; exact h
theorem da_nil : DA X G W [] [] := paImp pa_nil fun σ H Q ⟨g, env, S, P, I, h⟩ => h [] H S Grow.rfl' I .nil rfl
theorem da_cons (he : DE X G W e m) (hr : DA X G W es ms) (hs : starEach (e :: es) X.env = (false, eval e X.env) :: starEach es X.env := by rfl) : DA X G W (e :: es) (m :: ms) :=
  paImp (pa_cons he hr hs) fun σ H Q ⟨g, env, S, P, I, h⟩ => by
    refine ⟨g, env, S, P, I, ?_⟩
    unfold evL at h
    cases q : m env with
    | ok d o e1 =>
      simp only [q] at h
      intro v H1 S1 gr hv
      obtain ⟨S2, g2, I2, r2⟩ := hv.frz
      refine ⟨g, e1, S2, P, I2, ?_⟩
      cases q2 : evL ms e1 with
      | ok ds e2 =>
        simp only [q2] at h
        intro vs H3 S3 g3 I3 r3 l3
        exact h (v :: vs) H3 S3 (gr.trans (g2.trans g3)) I3 (.cons (r2.mono g3) r3) (by simp [l3])
      | exc c fs e2 =>
        simp only [q2] at h
        exact (PostL.mono (r := .exc c fs e2) (n := 0) (RL' := fun _ _ => True) (G := G) (W := W) (gr.trans g2) h)
      | bad => simp only [q2] at h; exact h
    | exc c fs e1 => simp only [q] at h; exact h
    | bad => simp only [q] at h; exact h

/-! ### displays -/
theorem New.tup {p : Addr} {vs : List V} {ds : List D} (hS : ∀ a, S a → ∃ u, H a = some u) (hp : H p = none) (r : RepL G H S vs ds) (l : vs.length ≤ sizeLine) : New G H S (.ref p) (L2.upd H p (.tup vs)) (.tup ds) false :=
  ⟨Ext.upd hp, One p, fun b hb => by subst hb; exact ⟨hp, _, upd_same, fun _ z => nomatch z⟩, by
    have g1 : Grow S H (Or1 S (One p)) (L2.upd H p (.tup vs)) := fun a ha => ⟨.inl ha, (grow_upd hS hp a ha).2⟩
    exact .tup (.inr rfl) upd_same l (r.mono g1)⟩
theorem New.lst {p : Addr} {vs : List V} {ds : List D} (hS : ∀ a, S a → ∃ u, H a = some u) (hp : H p = none) (r : RepL G H S vs ds) (l : vs.length ≤ sizeLine) : New G H S (.ref p) (L2.upd H p (.lst vs)) (.lst ds) true :=
  New.root hp ⟨vs, upd_same, l, r.mono (grow_upd hS hp)⟩
def mTup (ms : List ME) : ME := bindL ms fun ds => liftP (some (.tup ds, false))
def mLst (ms : List ME) : ME := bindL ms fun ds => liftP (some (.lst ds, true))
theorem de_tup {x1} (h : DA X G W es ms) (hl : ms.length ≤ sizeLine := by decide) : DE X G W (.Tuple es x1 pos) (mTup ms) :=
  peImp (pe_tup h) fun σ H Q ⟨g, env, S, P, I, h⟩ => bindL_ok I h fun ds env1 vs H1 S1 gr I1 r l h => by
    obtain ⟨d, o, e, k⟩ := liftP_ok I1 h
    cases e
    exact ⟨by rw [l]; exact hl, fun p hp => k _ _ (New.tup I1.shH hp r (by rw [l]; exact hl))⟩
theorem de_lst (h : DA X G W es ms) (hl : ms.length ≤ sizeLine := by decide) : DE X G W (.List es pos) (mLst ms) :=
  peImp (pe_lst h) fun σ H Q ⟨g, env, S, P, I, h⟩ => bindL_ok I h fun ds env1 vs H1 S1 gr I1 r l h => by
    obtain ⟨d, o, e, k⟩ := liftP_ok I1 h
    cases e
    exact ⟨by rw [l]; exact hl, fun p hp => k _ _ (New.lst I1.shH hp r (by rw [l]; exact hl))⟩

/-! ### built-in calls -/
abbrev RN := List V → Hp → VK → Prop
theorem de_b1 {x : Str} {id : String} {r : RN} {p : D → RP} {oa : Opn} {px : Pos} (hc : CallR X (.builtin id) r) (hp : P1 G (fun v H Q => r [v] H Q) p) (hg : Gl X x) (hm : X.mg x = none) (hv : bootBuiltins x = some (.builtin id)) (ha : DO X G W e oa)
    (hn : x ≠ "__name__" := by decide) (hdb : (x == ("__debug__" : Str)) = false := by decide)
    (h1 : starEach (e :: []) X.env = (false, eval e X.env) :: starEach [] X.env := by rfl) (hpl : (backTo pos (starEach [] X.env)).any (·.1) = false := by rfl) : DE X G W (.Call (.Name x px) [e] [] pos) (mO1 p oa) :=
  peImp (pe_callB hc hg hm hv (pa_cons ha.pe pa_nil h1) hn hdb h1 hpl) fun σ H Q h => tO1 hp h
theorem de_t1 {x : Str} {id : String} {r : RN} {p : D → RP} {oa : Opn} {px : Pos} (hc : CallR X (.type id) r) (hp : P1 G (fun v H Q => r [v] H Q) p) (hg : Gl X x) (hm : X.mg x = none) (hv : bootBuiltins x = some (.type id)) (ha : DO X G W e oa)
    (hn : x ≠ "__name__" := by decide) (hdb : (x == ("__debug__" : Str)) = false := by decide)
    (h1 : starEach (e :: []) X.env = (false, eval e X.env) :: starEach [] X.env := by rfl) (hpl : (backTo pos (starEach [] X.env)).any (·.1) = false := by rfl) : DE X G W (.Call (.Name x px) [e] [] pos) (mO1 p oa) :=
  peImp (pe_callTy hc hg hm hv (pa_cons ha.pe pa_nil h1) hn hdb h1 hpl) fun σ H Q h => tO1 hp h
theorem de_b2 {x : Str} {id : String} {r : RN} {p : D → D → RP} {e2 : Expr} {oa ob : Opn} {px : Pos} (hc : CallR X (.builtin id) r) (hp : P2 G (fun v w H Q => r [v, w] H Q) p) (hg : Gl X x) (hm : X.mg x = none) (hv : bootBuiltins x = some (.builtin id)) (ha : DO X G W e oa) (hb : DO X G W e2 ob)
    (hn : x ≠ "__name__" := by decide) (hdb : (x == ("__debug__" : Str)) = false := by decide)
    (h1 : starEach (e :: e2 :: []) X.env = (false, eval e X.env) :: starEach [e2] X.env := by rfl) (h2 : starEach (e2 :: []) X.env = (false, eval e2 X.env) :: starEach [] X.env := by rfl) (hpl : (backTo pos (starEach [e2] X.env)).any (·.1) = false := by rfl) : DE X G W (.Call (.Name x px) [e, e2] [] pos) (mO2 p oa ob) :=
  peImp (pe_callB hc hg hm hv (pa_cons ha.pe (pa_cons hb.pe pa_nil h2) h1) hn hdb h1 hpl) fun σ H Q h => tO2 hp h

/-! ### attributes -/
theorem zip_look {f : Str} : ∀ {F : List Str} {vs : List V} {j : Nat}, F.Nodup → F[j]? = some f → (F.zip vs).lookup f = vs[j]?
  | [], vs, j, _, h => by simp at h
  | x :: F, [], j, _, h => by simp
  | x :: F, v :: vs, 0, _, h => by
    simp at h; subst h
    simp [List.lookup]
  | x :: F, v :: vs, j + 1, nd, h => by
    have nd' := List.nodup_cons.mp nd
    have hF : F[j]? = some f := by simpa using h
    have ne : (f == x) = false := by
      have : f ≠ x := fun e => nd'.1 (e ▸ List.mem_of_getElem? hF)
      simpa using this
    rw [List.zip_cons_cons, List.lookup_cons, ne]
    simpa using zip_look nd'.2 hF
/-- what a field's read asks of the classes: idx tells the field's place -/
def FldOk (K : PySem.W.Frag) (G : Ctx) (f : Str) (idx : Nat → Option Nat) : Prop := ∀ c j, idx c = some j → Cls K (G.C c) ∧ NoAttr K (G.C c) f ∧ (G.F c)[j]? = some f ∧ (G.F c).Nodup
def attrP (idx : Nat → Option Nat) : D → RP
  | .obj c ds => match idx c with
    | some j => (ds[j]?).map fun d => (d, false)
    | none => none
  | _ => none
theorem de_attr {f : Str} {idx : Nat → Option Nat} {oa : Opn} (hf : FldOk X.K G f idx) (he : DO X G W e oa) (hb : attributeBase e f X.env (eval e X.env) = eval e X.env := by rfl) : DE X G W (.Attribute e f pos) (mO1 (attrP idx) oa) :=
  peImp (pe_fld he.pe hb) fun σ H Q h => tO1 (r := fun x H1 Q => ∃ a C dx fs v, x = .ref a ∧ H1 a = some (.ins C dx fs) ∧ Cls X.K C ∧ NoAttr X.K C f ∧ fs.lookup f = some v ∧ Q v H1) (fun H S v x d o Q hS rb e k => by
    cases x with
    | obj c ds =>
      simp only [attrP] at e
      cases q : idx c with
      | none => rw [q] at e; cases e
      | some j =>
        rw [q] at e
        cases q2 : ds[j]? with
        | none => simp [q2] at e
        | some d' =>
          simp [q2] at e
          obtain ⟨rfl, rfl⟩ := e
          obtain ⟨a, dx, vs, rfl, h1, h2, h3⟩ := rb.obj
          obtain ⟨f1, f2, f3, f4⟩ := hf c j q
          obtain ⟨v, q3, r⟩ := h3.get q2
          exact ⟨a, _, dx, _, v, rfl, h1, f1, f2, (zip_look f4 f3).trans q3, k v H (New.same r)⟩
    | _ => cases e) h

/-! ### items, slices -/
theorem de_ix {r : R2} {p : D → D → RP} {a b : Expr} {oa ob : Opn} (hr : IxR X r) (hp : P2 G r p) (ha : DO X G W a oa) (hb : DO X G W b ob) (hs : PlainIx b := by intro _ _; rfl) : DE X G W (.Subscript a b pos) (mO2 p oa ob) :=
  peImp (pe_ix hr ha.pe hb.pe hs) fun σ H Q h => tO2 hp h
/-- d[k], the key there -/
def keyD : D → Option Key
  | .int i => some (.inl i)
  | .str x => some (.inr x)
  | _ => none
def keysD : List D → Option (List Key)
  | [] => some []
  | d :: r => match keyD d, keysD r with
    | some k, some ks => some (k :: ks)
    | _, _ => none
section
variable {κ : Type} [DecidableEq κ]
def lookD (kvs : List (κ × D)) (k : κ) : Option D := (kvs.find? fun kv => decide (kv.1 = k)).map (·.2)
def putD (kvs : List (κ × D)) (k : κ) (v : D) : List (κ × D) :=
  if (kvs.any fun kv => decide (kv.1 = k)) = true then kvs.map fun kv => if kv.1 = k then (kv.1, v) else kv else kvs ++ [(k, v)]
def dropD (kvs : List (κ × D)) (k : κ) : List (κ × D) := kvs.filter fun kv => decide (kv.1 ≠ k)
end
theorem keyD_ok {x : D} {k : Key} (e : keyD x = some k) (h : RepB G H S v x) : v = kV k ∧ keyOk k := by
  cases x <;> simp only [keyD] at e <;> (try cases e)
  · exact ⟨h.int, trivial⟩
  · obtain ⟨h1, h2⟩ := h.str
    exact ⟨h1, h2⟩
theorem RepK.look {κ' : Unit} {k : Key} : ∀ {vs : List (Key × V)} {ds : List (Key × D)}, RepK G H S vs ds → (∀ d, lookD ds k = some d → ∃ v, valV vs k = some v ∧ Rep G H S v d) ∧ (lookD ds k = none → valV vs k = none)
  | _, _, .nil => ⟨fun d h => (by simp [lookD] at h), fun _ => rfl⟩
  | _, _, .cons (k := k') (v := v) (d := d) (vs := vs) (ds := ds) _ r rs => by
    have ih := RepK.look (κ' := κ') (k := k) rs
    by_cases e : k' = k
    · subst e
      rw [valV_pos (p := (k', v)) rfl]
      have : lookD ((k', d) :: ds) k' = some d := by simp [lookD]
      rw [this]
      exact ⟨fun d' h => by injection h with h; subst h; exact ⟨v, rfl, r⟩, fun h => by cases h⟩
    · rw [valV_neg (p := (k', v)) e]
      have : lookD ((k', d) :: ds) k = lookD ds k := by simp [lookD, e]
      rw [this]
      exact ih
def dgetP : D → D → RP
  | .dct kvs, y => match keyD y with
    | some k => (lookD kvs k).map fun d => (d, false)
    | none => none
  | _, _ => none
theorem dgetP_ok : P2 G (fun x y H2 Q => ∃ a v, x = .ref a ∧ DGet H2 a y (some v) ∧ Q v H2) dgetP := fun H S v w x y d o Q hS rx ry e k => by
  cases x with
  | dct kvs =>
    simp only [dgetP] at e
    cases q : keyD y with
    | none => rw [q] at e; cases e
    | some key =>
      rw [q] at e
      cases q2 : lookD kvs key with
      | none => simp [q2] at e
      | some d' =>
        simp [q2] at e
        obtain ⟨rfl, rfl⟩ := e
        obtain ⟨a, vs, rfl, h1, h2, h3⟩ := rx.dct
        obtain ⟨rfl, _⟩ := keyD_ok q ry
        obtain ⟨v, e1, r⟩ := (h3.look (κ' := ()) (k := key)).1 d' q2
        exact ⟨a, v, rfl, by rw [← e1]; exact DGet.k h1, k v H (New.same r)⟩
  | _ => cases e
theorem de_dget {a b : Expr} {oa ob : Opn} (hu : X.A.units + 1 < cLine) (ha : DO X G W a oa) (hb : DO X G W b ob) (hs : NoSl b := by intro _ _; rfl) : DE X G W (.Subscript a b pos) (mO2 dgetP oa ob) :=
  peImp (pe_dget hu ha.pe hb.pe hs) fun σ H Q h => tO2 dgetP_ok h
end
end DL

set_option Elab.async false
set_option linter.all false
set_option maxRecDepth 100000
set_option maxHeartbeats 1000000
/-! DL5: the primitives: arithmetic, comparisons, in, len, all, any, sum, sorted, list, tuple, int, isinstance. -/
namespace DL
open PySem L2
section
variable {X : Cx} {G : Ctx} {H : Hp} {S : Sset} {v w : V} {Q : VK}
theorem k_int {i : Int} (k : ∀ v' H', New G H S v' H' (.int i) false → Q v' H') : Q (.int i) H := k _ _ (New.same .int)
theorem k_bl {i : Bool} (k : ∀ v' H', New G H S v' H' (.bl i) false → Q v' H') : Q (.bl i) H := k _ _ (New.same .bl)
/-! two ints -/
def intP (C : Int → Int → Bool) (f : Int → Int → Int) : D → D → RP
  | .int i, .int j => match C i j with | true => some (.int (f i j), false) | false => none
  | _, _ => none
def intP0 (f : Int → Int → Int) : D → D → RP
  | .int i, .int j => some (.int (f i j), false)
  | _, _ => none
def cmpP (f : Int → Int → Bool) : D → D → RP
  | .int i, .int j => some (.bl (f i j), false)
  | _, _ => none
theorem intP_ok {C : Int → Int → Prop} {C' : Int → Int → Bool} {f f' : Int → Int → Int} (hC : ∀ i j, C' i j = true → C i j ∧ f' i j = f i j) : P2 G (rI C fun i j => .int (f i j)) (intP C' f') := fun H S v w x y d o Q hS rx ry e k => by
  cases x <;> cases y <;> simp only [intP] at e <;> (try cases e)
  rename_i i j
  split at e
  · rename_i h
    cases e
    obtain ⟨h1, h2⟩ := hC i j h
    rw [h2] at k
    exact ⟨i, j, rx.int, ry.int, h1, k_int k⟩
  · cases e
theorem intP0_ok {f : Int → Int → Int} : P2 G (rI0 fun i j => .int (f i j)) (intP0 f) := fun H S v w x y d o Q hS rx ry e k => by
  cases x <;> cases y <;> simp only [intP0] at e <;> (try cases e)
  exact ⟨_, _, rx.int, ry.int, k_int k⟩
theorem cmpP_ok {f : Int → Int → Bool} : P2 G (rI0 fun i j => .bl (f i j)) (cmpP f) := fun H S v w x y d o Q hS rx ry e k => by
  cases x <;> cases y <;> simp only [cmpP] at e <;> (try cases e)
  exact ⟨_, _, rx.int, ry.int, k_bl k⟩
def cMul (i j : Int) : Bool := (decide (-(2 ^ 64) < i) && decide (i < 2 ^ 64)) || (decide (-(2 ^ 64) < j) && decide (j < 2 ^ 64))
def cDiv (_ j : Int) : Bool := decide (j ≠ 0) && decide (j.natAbs < 1073741824)
def cMod (_ j : Int) : Bool := decide (j ≠ 0)
def cPow (i j : Int) : Bool := decide (0 ≤ j) && (decide (j ≤ 1000000) && decide (i.natAbs < 2 ^ 64))
def addI := intP0 (fun i j => i + j)
def subP := intP0 (fun i j => i - j)
def mulP := intP cMul (fun i j => i * j)
def divP := intP cDiv Int.fdiv
def modP := intP cMod Int.fmod
def powP := intP cPow (fun i j => i ^ j.toNat)
theorem mulP_ok : P2 G (rI CMul fun i j => .int (i * j)) mulP := intP_ok fun i j h => ⟨by
  simp only [cMul, Bool.or_eq_true, Bool.and_eq_true, decide_eq_true_eq] at h
  exact h, rfl⟩
theorem divP_ok : P2 G (rI CDivN fun i j => .int (i.fdiv j)) divP := intP_ok fun i j h => ⟨by
  simp only [cDiv, Bool.and_eq_true, decide_eq_true_eq] at h
  exact h, rfl⟩
theorem modP_ok : P2 G (rI (fun _ j => j ≠ 0) fun i j => .int (i.fmod j)) modP := intP_ok fun i j h => ⟨by
  simp only [cMod, decide_eq_true_eq] at h
  exact h, rfl⟩
theorem powP_ok : P2 G (rI CPow fun i j => .int (i ^ j.toNat)) powP := intP_ok fun i j h => ⟨by
  simp only [cPow, Bool.and_eq_true, decide_eq_true_eq] at h
  exact h, rfl⟩
def negP : D → RP
  | .int i => some (.int (-i), false)
  | _ => none
theorem negP_ok : P1 G (rU fun i => .int (-i)) negP := fun H S v x d o Q hS rx e k => by
  cases x <;> simp only [negP] at e <;> (try cases e)
  exact ⟨_, rx.int, k_int k⟩

/-! + -/
theorem sOk_append {x y : Str} (hx : sOk x) (hy : sOk y) (h : x.length + y.length ≤ sizeLine) : sOk (x ++ y) := by
  refine ⟨by rw [Str.length_append]; exact h, ?_⟩
  have h1 := hx.2
  have h2 := hy.2
  unfold PyData.strOk at *
  show ((x.cps ++ y.cps).all fun c => decide (c < 0x110000)) = true
  rw [Array.all_append, h1, h2]; rfl
def addP : D → D → RP
  | .int i, .int j => some (.int (i + j), false)
  | .str x, .str y => match decide (x.length + y.length ≤ sizeLine) with | true => some (.str (x ++ y), false) | false => none
  | .lst xs, .lst ys => match decide (xs.length + ys.length ≤ sizeLine) with | true => some (.lst (xs ++ ys), true) | false => none
  | .tup xs, .tup ys => match decide (xs.length + ys.length ≤ sizeLine) with | true => some (.tup (xs ++ ys), false) | false => none
  | _, _ => none
def rAddAll (K : PySem.W.Frag) : R2 := fun x y H Q => rI0 (fun i j => .int (i + j)) x y H Q ∨ ((∃ i j, x = .str i ∧ y = .str j ∧ i.length + j.length ≤ sizeLine ∧ Q (.str (i ++ j)) H) ∨ (rCat x y H Q ∨ rCatA K x y H Q))
theorem op_addAll : OpR X (binaryOp .Add) (rAddAll X.K) := op_add.or (op_add_str.or (op_cat.or op_catA))
theorem addP_ok {K : PySem.W.Frag} (hK : G.K = K) : P2 G (rAddAll K) addP := fun H S v w x y d o Q hS rx ry e k => by
  cases x <;> cases y <;> simp only [addP] at e <;> (try cases e)
  · exact .inl ⟨_, _, rx.int, ry.int, k_int k⟩
  · split at e
    · rename_i h
      have h := of_decide_eq_true h
      cases e
      obtain ⟨r1, h1⟩ := rx.str
      obtain ⟨r2, h2⟩ := ry.str
      exact .inr (.inl ⟨_, _, r1, r2, h, k _ _ (New.same (.str (sOk_append h1 h2 h)))⟩)
    · cases e
  · split at e
    · rename_i h
      have h := of_decide_eq_true h
      cases e
      obtain ⟨a, vs, rfl, h1, h2, h3⟩ := rx.tup hK
      obtain ⟨b, ws, rfl, q1, q2, q3⟩ := ry.tup hK
      refine .inr (.inr (.inr ⟨a, b, vs, ws, rfl, rfl, h1, q1, by rw [h3.length, q3.length]; exact h, fun z => ?_, fun z1 z => ?_, fun z1 z2 p hp => ?_⟩))
      · subst z
        have e0 := h3.length
        have : (_ : List D) = [] := List.eq_nil_of_length_eq_zero e0.symm
        rw [this, List.nil_append] at k
        refine k _ _ (New.same ?_)
        rcases ry with h | ⟨_, _, h⟩
        · exact h
        · exact h.elim
      · subst z
        have e0 := q3.length
        have : (_ : List D) = [] := List.eq_nil_of_length_eq_zero e0.symm
        rw [this, List.append_nil] at k
        refine k _ _ (New.same ?_)
        rcases rx with h | ⟨_, _, h⟩
        · exact h
        · exact h.elim
      · exact k _ _ (New.tup hS hp (h3.append q3) (by rw [List.length_append, h3.length, q3.length]; exact h))
    · cases e
  · split at e
    · rename_i h
      have h := of_decide_eq_true h
      cases e
      obtain ⟨a, vs, rfl, h1, h2, h3⟩ := rx.lst
      obtain ⟨b, ws, rfl, q1, q2, q3⟩ := ry.lst
      have hl : vs.length + ws.length ≤ sizeLine := by rw [h3.length, q3.length]; exact h
      exact .inr (.inr (.inl ⟨a, b, vs, ws, rfl, rfl, h1, q1, hl, fun p hp => k _ _ (New.lst hS hp (h3.append q3) (by rw [List.length_append]; exact hl))⟩))
    · cases e

/-! == and != of data -/
mutual
def pyD : D → Option PyData
  | .non => some .none | .bl b => some (.bool b) | .int i => some (.int i) | .str x => some (.str x)
  | .lst xs => (pyL xs).map .list
  | .tup xs => (pyL xs).map .tuple
  | _ => none
def pyL : List D → Option (List PyData)
  | [] => some []
  | d :: r => match pyD d, pyL r with
    | some p, some ps => some (p :: ps)
    | _, _ => none
end
mutual
theorem pyD_ok {K : PySem.W.Frag} (hK : G.K = K) : ∀ {v : V} {d : D} {p : PyData}, Rep G H S v d → pyD d = some p → Dp K H v p ∧ p.canLay0 = true
  | _, _, _, .non, e => by simp only [pyD] at e; cases e; exact ⟨.non, rfl⟩
  | _, _, _, .bl, e => by simp only [pyD] at e; cases e; exact ⟨.bl _, rfl⟩
  | _, _, _, .int, e => by simp only [pyD] at e; cases e; exact ⟨.int _, rfl⟩
  | _, _, _, .str h, e => by simp only [pyD] at e; cases e; exact ⟨.str _, by simpa [PyData.canLay0] using h.2⟩
  | _, _, p, .tup (ds := ds) s h l r, e => by
    cases q : pyL ds with
    | none => simp [pyD, q] at e
    | some ps =>
      simp [pyD, q] at e; subst e
      obtain ⟨h1, h2⟩ := pyL_ok hK r q
      exact ⟨.tup (SqT.of h) h1, by simpa [PyData.canLay0] using h2⟩
  | _, _, p, .ktup (ds := ds) k r, e => by
    cases q : pyL ds with
    | none => simp [pyD, q] at e
    | some ps =>
      simp [pyD, q] at e; subst e
      obtain ⟨h1, h2⟩ := pyL_ok hK r q
      subst hK
      exact ⟨.tup (.inr k) h1, by simpa [PyData.canLay0] using h2⟩
  | _, _, p, .lst (ds := ds) s h l r, e => by
    cases q : pyL ds with
    | none => simp [pyD, q] at e
    | some ps =>
      simp [pyD, q] at e; subst e
      obtain ⟨h1, h2⟩ := pyL_ok hK r q
      exact ⟨.lst (SqL.of h) h1, by simpa [PyData.canLay0] using h2⟩
  | _, _, _, .dct .., e => by simp [pyD] at e
  | _, _, _, .dtt .., e => by simp [pyD] at e
  | _, _, _, .obj .., e => by simp [pyD] at e
  | _, _, _, .scr .., e => by simp [pyD] at e
  | _, _, _, .kscr .., e => by simp [pyD] at e
  | _, _, _, .exc .., e => by simp [pyD] at e
theorem pyL_ok {K : PySem.W.Frag} (hK : G.K = K) : ∀ {v : List V} {d : List D} {p : List PyData}, RepL G H S v d → pyL d = some p → DpAll K H v p ∧ PyData.canLayAll0 p = true
  | _, _, _, .nil, e => by simp only [pyL] at e; cases e; exact ⟨.nil, rfl⟩
  | _, _, p, .cons (d := d) (ds := ds) r rs, e => by
    simp only [pyL] at e
    cases q : pyD d with
    | none => simp [q] at e
    | some p1 =>
      cases q2 : pyL ds with
      | none => simp [q, q2] at e
      | some ps =>
        simp [q, q2] at e; subst e
        obtain ⟨h1, h2⟩ := pyD_ok hK r q
        obtain ⟨h3, h4⟩ := pyL_ok hK rs q2
        exact ⟨.cons h1 h3, by simp [PyData.canLayAll0, h2, h4]⟩
end
theorem pyD_okB {K : PySem.W.Frag} {d : D} {p : PyData} (hK : G.K = K) (h : RepB G H S v d) (e : pyD d = some p) : Dp K H v p ∧ p.canLay0 = true := by
  rcases h with h | ⟨a, rfl, h⟩
  · exact pyD_ok hK h e
  · cases d with
    | lst ds =>
      obtain ⟨vs, h1, h2, h3⟩ := h
      cases q : pyL ds with
      | none => simp [pyD, q] at e
      | some ps =>
        simp [pyD, q] at e; subst e
        obtain ⟨k1, k2⟩ := pyL_ok hK h3 q
        exact ⟨.lst (SqL.of h1) k1, by simpa [PyData.canLay0] using k2⟩
    | dct ds => simp [pyD] at e
    | dtt ds => simp [pyD] at e
    | obj c ds => simp [pyD] at e
    | _ => exact h.elim
/-! equality of data, True as 1 -/
mutual
def eqD : D → D → Bool
  | .non, .non => true
  | .bl a, .bl b => a == b
  | .bl a, .int j => (if a then 1 else 0) == j
  | .int i, .bl b => i == (if b then 1 else 0)
  | .int i, .int j => i == j
  | .str x, .str y => x == y
  | .lst xs, .lst ys => eqL xs ys
  | .tup xs, .tup ys => eqL xs ys
  | _, _ => false
def eqL : List D → List D → Bool
  | [], [] => true
  | x :: xs, y :: ys => eqD x y && eqL xs ys
  | _, _ => false
end
mutual
def depD : D → Option Nat
  | .non => some 0 | .bl _ => some 0 | .int _ => some 0 | .str _ => some 0
  | .lst xs => (depL xs).map (· + 1)
  | .tup xs => (depL xs).map (· + 1)
  | _ => none
def depL : List D → Option Nat
  | [] => some 0
  | d :: r => match depD d, depL r with
    | some p, some ps => some (max p ps)
    | _, _ => none
end
mutual
theorem depD_py : ∀ {d : D} {n : Nat}, depD d = some n → ∃ p, pyD d = some p ∧ p.depth = n
  | .non, _, e => by simp only [depD] at e; cases e; exact ⟨_, rfl, rfl⟩
  | .bl _, _, e => by simp only [depD] at e; cases e; exact ⟨_, rfl, rfl⟩
  | .int _, _, e => by simp only [depD] at e; cases e; exact ⟨_, rfl, rfl⟩
  | .str _, _, e => by simp only [depD] at e; cases e; exact ⟨_, rfl, rfl⟩
  | .lst xs, _, e => by
    cases q : depL xs with
    | none => simp [depD, q] at e
    | some m =>
      simp [depD, q] at e; subst e
      obtain ⟨ps, h1, h2⟩ := depL_py q
      exact ⟨.list ps, by simp [pyD, h1], by simp [PyData.depth, h2]⟩
  | .tup xs, _, e => by
    cases q : depL xs with
    | none => simp [depD, q] at e
    | some m =>
      simp [depD, q] at e; subst e
      obtain ⟨ps, h1, h2⟩ := depL_py q
      exact ⟨.tuple ps, by simp [pyD, h1], by simp [PyData.depth, h2]⟩
  | .dct _, _, e => by simp [depD] at e
  | .dtt _, _, e => by simp [depD] at e
  | .obj _ _, _, e => by simp [depD] at e
  | .scr _, _, e => by simp [depD] at e
  | .exc _ _, _, e => by simp [depD] at e
theorem depL_py : ∀ {d : List D} {n : Nat}, depL d = some n → ∃ p, pyL d = some p ∧ PyData.depthAll p = n
  | [], _, e => by simp only [depL] at e; cases e; exact ⟨_, rfl, rfl⟩
  | d :: r, _, e => by
    simp only [depL] at e
    cases q : depD d with
    | none => simp [q] at e
    | some m =>
      cases q2 : depL r with
      | none => simp [q, q2] at e
      | some m2 =>
        simp [q, q2] at e; subst e
        obtain ⟨p, h1, h2⟩ := depD_py q
        obtain ⟨ps, h3, h4⟩ := depL_py q2
        exact ⟨p :: ps, by simp [pyL, h1, h3], by simp [PyData.depthAll, h2, h4]⟩
end
mutual
theorem eqD_py : ∀ {x y : D} {p q : PyData}, pyD x = some p → pyD y = some q → PyData.eqv p q = eqD x y
  | x, y, p, q, hp, hq => by
    cases x <;> simp only [pyD, reduceCtorEq, Option.some.injEq, Option.map_eq_some_iff] at hp
    all_goals cases y <;> simp only [pyD, reduceCtorEq, Option.some.injEq, Option.map_eq_some_iff] at hq
    all_goals first
      | (subst hp; subst hq; simp only [PyData.eqv, eqD]; done)
      | (subst hp; obtain ⟨qs, h2, rfl⟩ := hq; simp only [PyData.eqv, eqD]; done)
      | (subst hq; obtain ⟨ps, h1, rfl⟩ := hp; simp only [PyData.eqv, eqD]; done)
      | (obtain ⟨ps, h1, rfl⟩ := hp; obtain ⟨qs, h2, rfl⟩ := hq; simp only [PyData.eqv, eqD]; first | exact eqL_py h1 h2 | done)
theorem eqL_py : ∀ {x y : List D} {p q : List PyData}, pyL x = some p → pyL y = some q → PyData.eqvAll p q = eqL x y
  | [], [], p, q, hp, hq => by simp only [pyL] at hp hq; cases hp; cases hq; simp only [PyData.eqvAll, eqL]
  | [], d :: r, p, q, hp, hq => by
    simp only [pyL] at hp hq; cases hp
    cases q1 : pyD d with
    | none => simp [q1] at hq
    | some p1 =>
      cases q2 : pyL r with
      | none => simp [q1, q2] at hq
      | some ps => simp [q1, q2] at hq; subst hq; simp only [PyData.eqvAll, eqL]
  | d :: r, [], p, q, hp, hq => by
    simp only [pyL] at hp hq; cases hq
    cases q1 : pyD d with
    | none => simp [q1] at hp
    | some p1 =>
      cases q2 : pyL r with
      | none => simp [q1, q2] at hp
      | some ps => simp [q1, q2] at hp; subst hp; simp only [PyData.eqvAll, eqL]
  | d :: r, d' :: r', p, q, hp, hq => by
    simp only [pyL] at hp hq
    cases q1 : pyD d with
    | none => simp [q1] at hp
    | some p1 =>
      cases q2 : pyL r with
      | none => simp [q1, q2] at hp
      | some ps =>
        simp [q1, q2] at hp; subst hp
        cases q3 : pyD d' with
        | none => simp [q3] at hq
        | some p3 =>
          cases q4 : pyL r' with
          | none => simp [q3, q4] at hq
          | some ps' =>
            simp [q3, q4] at hq; subst hq
            simp only [PyData.eqvAll, eqL, eqD_py q1 q3, eqL_py q2 q4]
end
def okDep (d : D) : Bool := match depD d with | some n => decide (n ≤ 64) | none => false
def eqP (x y : D) : RP := match okDep x && okDep y with | true => some (.bl (eqD x y), false) | false => none
def neP (x y : D) : RP := match okDep x && okDep y with | true => some (.bl (!eqD x y), false) | false => none
theorem okDep_py {K : PySem.W.Frag} {d : D} (hK : G.K = K) (h : okDep d = true) (r : RepB G H S v d) : ∃ p, pyD d = some p ∧ Dp K H v p ∧ SeqAt.shaped p = true := by
  unfold okDep at h
  cases q : depD d with
  | none => rw [q] at h; cases h
  | some n =>
    rw [q] at h
    obtain ⟨p, h1, h2⟩ := depD_py q
    obtain ⟨h3, h4⟩ := pyD_okB hK r h1
    refine ⟨p, h1, h3, ?_⟩
    unfold SeqAt.shaped
    have := of_decide_eq_true h
    rw [h4, Bool.true_and, decide_eq_true_eq, h2]; exact this
theorem eqP_ok {K : PySem.W.Frag} (hK : G.K = K) : P2 G (rEqD K) eqP := fun H S v w x y d o Q hS rx ry e k => by
  unfold eqP at e
  split at e
  · rename_i h
    cases e
    obtain ⟨hx, hy⟩ := Bool.and_eq_true_iff.mp h
    obtain ⟨p, h1, h2, h3⟩ := okDep_py hK hx rx
    obtain ⟨q, k1, k2, k3⟩ := okDep_py hK hy ry
    exact ⟨p, q, h2, k2, h3, k3, by rw [eqD_py h1 k1]; exact k_bl k⟩
  · cases e
theorem neP_ok {K : PySem.W.Frag} (hK : G.K = K) : P2 G (rNeD K) neP := fun H S v w x y d o Q hS rx ry e k => by
  unfold neP at e
  split at e
  · rename_i h
    cases e
    obtain ⟨hx, hy⟩ := Bool.and_eq_true_iff.mp h
    obtain ⟨p, h1, h2, h3⟩ := okDep_py hK hx rx
    obtain ⟨q, k1, k2, k3⟩ := okDep_py hK hy ry
    exact ⟨p, q, h2, k2, h3, k3, by rw [eqD_py h1 k1]; exact k_bl k⟩
  · cases e
def isN : D → Bool
  | .non => true
  | _ => false
def isNP : D → D → RP
  | x, .non => some (.bl (isN x), false)
  | _, _ => none
def isNotNP : D → D → RP
  | x, .non => some (.bl (!isN x), false)
  | _, _ => none
theorem none_of_rep {d : D} (h : RepB G H S v d) : decide (v = .non) = isN d := by
  rcases h with h | ⟨a, rfl, h⟩
  · cases h <;> rfl
  · cases d <;> first | exact h.elim | rfl
theorem isNP_ok : P2 G (fun x y H Q => y = .non ∧ Q (.bl (decide (x = .non))) H) isNP := fun H S v w x y d o Q hS rx ry e k => by
  cases y <;> simp only [isNP] at e <;> (try cases e)
  exact ⟨ry.non, by rw [none_of_rep rx]; exact k_bl k⟩
theorem isNotNP_ok : P2 G (fun x y H Q => y = .non ∧ Q (.bl (!decide (x = .non))) H) isNotNP := fun H S v w x y d o Q hS rx ry e k => by
  cases y <;> simp only [isNotNP] at e <;> (try cases e)
  exact ⟨ry.non, by rw [none_of_rep rx]; exact k_bl k⟩

/-! < of texts -/
def strLt (x y : Str) : Bool := decide (x.cps.toList < y.cps.toList)
def ltP : D → D → RP
  | .int i, .int j => some (.bl (decide (i < j)), false)
  | .str x, .str y => some (.bl (strLt x y), false)
  | _, _ => none
def rLtAll : R2 := fun x y H Q => rI0 (fun i j => .bl (decide (i < j))) x y H Q ∨ (∃ i j, x = .str i ∧ y = .str j ∧ Q (.bl (decide (i.cps.toList < j.cps.toList))) H)
theorem op_ltAll : OpR X (compareOp .Lt) rLtAll := op_lt.or op_lt_str
theorem ltP_ok : P2 G rLtAll ltP := fun H S v w x y d o Q hS rx ry e k => by
  cases x <;> cases y <;> simp only [ltP] at e <;> (try cases e)
  · exact .inl ⟨_, _, rx.int, ry.int, k_bl k⟩
  · exact .inr ⟨_, _, rx.str.1, ry.str.1, k_bl k⟩

/-! in -/
def flatD : D → Bool
  | .non => true | .bl _ => true | .int _ => true | .str _ => true | _ => false
def flatVal : D → V
  | .non => .non | .bl b => .bl b | .int i => .int i | .str x => .str x | _ => .non
theorem flat_rep {d : D} (f : flatD d = true) (h : RepB G H S v d) : v = flatVal d := by
  cases d <;> first
    | exact h.non
    | exact h.bl
    | exact h.int
    | exact h.str.1
    | cases f
theorem flat_repL : ∀ {vs : List V} {ds : List D}, RepL G H S vs ds → ds.all flatD = true → vs = ds.map flatVal
  | _, _, .nil, _ => rfl
  | _, _, .cons (d := d) (ds := ds) r rs, f => by
    have f : (flatD d && ds.all flatD) = true := f
    obtain ⟨f1, f2⟩ := Bool.and_eq_true_iff.mp f
    rw [List.map_cons, ← flat_rep f1 (.inl r), ← flat_repL rs f2]
theorem flatV_flatVal {d : D} (f : flatD d = true) : flatV (flatVal d) = true := by cases d <;> first | rfl | cases f
theorem flatVs_flatVal : ∀ {ds : List D}, ds.all flatD = true → (ds.map flatVal).all flatV = true
  | [], _ => rfl
  | d :: ds, f => by
    have f : (flatD d && ds.all flatD) = true := f
    obtain ⟨f1, f2⟩ := Bool.and_eq_true_iff.mp f
    rw [List.map_cons, List.all_cons, flatV_flatVal f1, flatVs_flatVal f2]; rfl
theorem eqV_flat {x y : D} (fx : flatD x = true) (fy : flatD y = true) : eqV (flatVal x) (flatVal y) = eqD x y := by
  cases x <;> cases y <;> first | (cases fx; done) | (cases fy; done) | (simp [eqV, flatVal, eqD]; done) | skip
  all_goals (simp only [flatVal, eqV, eqD]; try (rename_i a b; cases a <;> first | rfl | (cases b <;> rfl) | skip))
end
end DL

set_option Elab.async false
set_option linter.all false
set_option maxRecDepth 100000
set_option maxHeartbeats 1000000
/-! DL6: more primitives: in, len, all, any, sum, sorted, list, tuple, int, abs, items, slices, join; lists changed. -/
namespace DL
open PySem L2
section
variable {X : Cx} {G : Ctx} {g : Gh} {W : WX} {σ : St} {H : Hp} {S : Sset} {v w : V} {Q : VK}
/-! ### in -/
def hasD (x : D) (ys : List D) : Bool := ys.any fun y => eqD y x
theorem inV_hasD {x : D} (fx : flatD x = true) : ∀ {ys : List D}, ys.all flatD = true → inV (flatVal x) (ys.map flatVal) = hasD x ys
  | [], _ => rfl
  | y :: ys, f => by
    have f : (flatD y && ys.all flatD) = true := f
    obtain ⟨f1, f2⟩ := Bool.and_eq_true_iff.mp f
    have ih := inV_hasD fx f2
    unfold inV hasD at *
    rw [List.map_cons, List.any_cons, List.any_cons, eqV_flat f1 fx, ih]
def inSeq (neg : Bool) (x : D) (ys : List D) : RP := match flatD x && ys.all flatD with | true => some (.bl (xor neg (hasD x ys)), false) | false => none
def inStr (neg : Bool) (x z : Str) : RP := match x.cps.toList with
  | [c] => some (.bl (xor neg (decide (c ∈ z.cps.toList))), false)
  | _ => none
def inP (neg : Bool) : D → D → RP
  | x, .lst ys => inSeq neg x ys
  | x, .tup ys => inSeq neg x ys
  | .str x, .str z => inStr neg x z
  | _, _ => none
def rInAll (K : PySem.W.Frag) (neg : Bool) : R2 := fun x y H Q => rIn K neg x y H Q ∨ ∃ (c : Nat) (z : Str), x = .str ⟨#[c]⟩ ∧ y = .str z ∧ Q (.bl (if neg then !decide (c ∈ z.cps.toList) else decide (c ∈ z.cps.toList))) H
theorem op_inAll : OpR X (compareOp .In) (rInAll X.K false) := op_in_seq.or op_in_sign
theorem op_notInAll : OpR X (compareOp .NotIn) (rInAll X.K true) := op_notIn_seq.or op_notIn_sign
theorem xor_if (neg b : Bool) : (if neg = true then !b else b) = xor neg b := by cases neg <;> cases b <;> rfl
theorem inP_ok {K : PySem.W.Frag} {neg : Bool} (hK : G.K = K) : P2 G (rInAll K neg) (inP neg) := fun H S v w x y d o Q hS rx ry e k => by
  have seq : ∀ ys : List D, inSeq neg x ys = some (d, o) → (∃ a vs, w = .ref a ∧ (SqL K H a vs ∨ SqT K H a vs) ∧ RepL G H S vs ys) → rIn K neg v w H Q := fun ys e ⟨a, vs, hw, h1, h2⟩ => by
    unfold inSeq at e
    split at e
    · rename_i f
      obtain ⟨f1, f2⟩ := Bool.and_eq_true_iff.mp f
      cases e
      have e1 := flat_rep f1 rx
      have e2 := flat_repL h2 f2
      refine ⟨a, vs, hw, h1, by rw [e1]; exact flatV_flatVal f1, by rw [e2]; exact flatVs_flatVal f2, ?_⟩
      rw [e1, e2, inV_hasD f1 f2, xor_if]
      exact k_bl k
    · cases e
  cases y with
  | lst ys =>
    obtain ⟨a, vs, h1, h2, _, h3⟩ := ry.lst
    exact .inl (seq ys (by cases x <;> exact e) ⟨a, vs, h1, .inl (SqL.of h2), h3⟩)
  | tup ys =>
    obtain ⟨a, vs, h1, h2, _, h3⟩ := ry.tup hK
    exact .inl (seq ys (by cases x <;> exact e) ⟨a, vs, h1, .inr h2, h3⟩)
  | str z =>
    cases x with
    | str x =>
      simp only [inP, inStr] at e
      split at e
      · rename_i c hc
        cases e
        obtain ⟨r1, _⟩ := rx.str
        obtain ⟨r2, _⟩ := ry.str
        have : x = ⟨#[c]⟩ := by
          cases x with
          | mk cps =>
            have hc : cps.toList = [c] := hc
            have : cps = #[c] := by rw [← Array.toArray_toList (xs := cps), hc]
            rw [this]
        refine .inr ⟨c, z, by rw [r1, this], r2, ?_⟩
        rw [xor_if]; exact k_bl k
      · cases e
    | _ => cases e
  | _ => cases x <;> cases e
/-! ### in, over a dict's keys -/
def hasK (neg : Bool) : D → D → RP
  | x, .dct kvs => match keyD x with
    | some k => some (.bl (xor neg (lookD kvs k).isSome), false)
    | none => none
  | _, _ => none
theorem hasK_ok {neg : Bool} : P2 G (fun y x H2 Q => ∃ a o, x = .ref a ∧ DGet H2 a y o ∧ Q (.bl (if neg then !o.isSome else o.isSome)) H2) (hasK neg) := fun H S v w x y d o Q hS rx ry e k => by
  cases y with
  | dct kvs =>
    simp only [hasK] at e
    cases q : keyD x with
    | none => rw [q] at e; cases e
    | some key =>
      rw [q] at e
      cases e
      obtain ⟨a, vs, rfl, h1, h2, h3⟩ := ry.dct
      obtain ⟨rfl, _⟩ := keyD_ok q rx
      refine ⟨a, _, rfl, DGet.k h1, ?_⟩
      have : (valV vs key).isSome = (lookD kvs key).isSome := by
        cases q2 : lookD kvs key with
        | none => rw [(h3.look (κ' := ()) (k := key)).2 q2]; rfl
        | some d' => obtain ⟨v, e1, _⟩ := (h3.look (κ' := ()) (k := key)).1 d' q2; rw [e1]; rfl
      rw [this, xor_if]; exact k_bl k
  | _ => cases e
theorem de_din {a b : Expr} {oa ob : Opn} {pos : Pos} (hu : X.A.units + 1 < cLine) (ha : DO X G W a oa) (hb : DO X G W b ob) (hm : behindInMarks .In b = false := by rfl) : DE X G W (.Compare a [.In] [b] pos) (mO2 (hasK false) oa ob) :=
  peImp (pe_cmp (pc_din hu ha.pe hb.pe) hm) fun σ H Q h => tO2 hasK_ok h
theorem de_dnotin {a b : Expr} {oa ob : Opn} {pos : Pos} (hu : X.A.units + 1 < cLine) (ha : DO X G W a oa) (hb : DO X G W b ob) (hm : behindInMarks .NotIn b = false := by rfl) : DE X G W (.Compare a [.NotIn] [b] pos) (mO2 (hasK true) oa ob) :=
  peImp (pe_cmp (pc_dnotin hu ha.pe hb.pe) hm) fun σ H Q h => tO2 hasK_ok h
theorem dt_din {a b : Expr} {oa ob : Opn} {pos : Pos} (hu : X.A.units + 1 < cLine) (ha : DO X G W a oa) (hb : DO X G W b ob) (hm : behindInMarks .In b = false := by rfl) : DT X G W (.Compare a [.In] [b] pos) (mT (mO2 (hasK false) oa ob)) :=
  ptImp (pt_cmp (pc_din hu ha.pe hb.pe) hm) fun σ H Q h => tO2 hasK_ok (mT_ok h)
theorem dt_dnotin {a b : Expr} {oa ob : Opn} {pos : Pos} (hu : X.A.units + 1 < cLine) (ha : DO X G W a oa) (hb : DO X G W b ob) (hm : behindInMarks .NotIn b = false := by rfl) : DT X G W (.Compare a [.NotIn] [b] pos) (mT (mO2 (hasK true) oa ob)) :=
  ptImp (pt_cmp (pc_dnotin hu ha.pe hb.pe) hm) fun σ H Q h => tO2 hasK_ok (mT_ok h)

/-! ### len -/
def lenP : D → RP
  | .str x => some (.int x.length, false)
  | .lst xs => some (.int xs.length, false)
  | .tup xs => some (.int xs.length, false)
  | .scr xs => some (.int xs.length, false)
  | _ => none
theorem lenP_ok {K : PySem.W.Frag} (hK : G.K = K) : P1 G (fun v H Q => ∃ x n, [v] = [x] ∧ LenV K x H n ∧ Q (.int n) H) lenP := fun H S v x d o Q hS rx e k => by
  cases x <;> simp only [lenP] at e <;> (try cases e)
  · obtain ⟨rfl, h⟩ := rx.str
    exact ⟨_, _, rfl, ⟨h.1, rfl⟩, k_int k⟩
  · obtain ⟨a, vs, rfl, h1, h2, h3⟩ := rx.tup hK
    exact ⟨_, _, rfl, .inr ⟨vs, h1, rfl⟩, by rw [h3.length]; exact k_int k⟩
  · obtain ⟨a, vs, rfl, h1, h2, h3⟩ := rx.lst
    exact ⟨_, _, rfl, .inl ⟨vs, SqL.of h1, rfl⟩, by rw [h3.length]; exact k_int k⟩
  · obtain ⟨a, rfl, h1, _⟩ := rx.scr
    exact ⟨_, _, rfl, .inl ⟨_, scr_sq hK h1, rfl⟩, by rw [List.length_map]; exact k_int k⟩
/-! ### all, any, sum -/
def bls : List D → Option (List Bool)
  | [] => some []
  | .bl b :: r => (bls r).map (b :: ·)
  | _ => none
theorem bls_rep : ∀ {vs : List V} {ds : List D} {bs : List Bool}, RepL G H S vs ds → bls ds = some bs → vs = bs.map V.bl
  | _, _, _, .nil, e => by cases e; rfl
  | _, _, bs, .cons (d := d) (ds := ds) r rs, e => by
    cases d <;> simp only [bls] at e <;> (try cases e)
    cases q : bls ds with
    | none => simp [q] at e
    | some b' =>
      simp [q] at e; subst e
      cases r
      rw [bls_rep rs q]; rfl
def allP : D → RP
  | .lst xs => (bls xs).map fun bs => (.bl (bs.all id), false)
  | _ => none
def anyP : D → RP
  | .lst xs => (bls xs).map fun bs => (.bl (bs.any id), false)
  | _ => none
theorem allP_ok {K : PySem.W.Frag} : P1 G (fun v H Q => rAll K [v] H Q) allP := fun H S v x d o Q hS rx e k => by
  cases x <;> simp only [allP] at e <;> (try cases e)
  rename_i xs
  cases q : bls xs with
  | none => simp [q] at e
  | some bs =>
    simp [q] at e
    obtain ⟨rfl, rfl⟩ := e
    obtain ⟨a, vs, rfl, h1, h2, h3⟩ := rx.lst
    rw [bls_rep h3 q] at h1
    exact ⟨a, bs, rfl, SqL.of h1, by have := k_bl (H := H) k; simpa using this⟩
theorem anyP_ok {K : PySem.W.Frag} : P1 G (fun v H Q => rAny K [v] H Q) anyP := fun H S v x d o Q hS rx e k => by
  cases x <;> simp only [anyP] at e <;> (try cases e)
  rename_i xs
  cases q : bls xs with
  | none => simp [q] at e
  | some bs =>
    simp [q] at e
    obtain ⟨rfl, rfl⟩ := e
    obtain ⟨a, vs, rfl, h1, h2, h3⟩ := rx.lst
    rw [bls_rep h3 q] at h1
    exact ⟨a, bs, rfl, SqL.of h1, by have := k_bl (H := H) k; simpa using this⟩
def intsD : List D → Option (List Int)
  | [] => some []
  | .int b :: r => (intsD r).map (b :: ·)
  | _ => none
theorem ints_rep : ∀ {vs : List V} {ds : List D} {bs : List Int}, RepL G H S vs ds → intsD ds = some bs → vs = bs.map V.int
  | _, _, _, .nil, e => by cases e; rfl
  | _, _, bs, .cons (d := d) (ds := ds) r rs, e => by
    cases d <;> simp only [intsD] at e <;> (try cases e)
    cases q : intsD ds with
    | none => simp [q] at e
    | some b' =>
      simp [q] at e; subst e
      cases r
      rw [ints_rep rs q]; rfl
def strsD : List D → Option (List Str)
  | [] => some []
  | .str b :: r => (strsD r).map (b :: ·)
  | _ => none
theorem strs_rep : ∀ {vs : List V} {ds : List D} {bs : List Str}, RepL G H S vs ds → strsD ds = some bs → vs = bs.map V.str ∧ ∀ x ∈ bs, sOk x
  | _, _, _, .nil, e => by cases e; exact ⟨rfl, fun _ h => nomatch h⟩
  | _, _, bs, .cons (d := d) (ds := ds) r rs, e => by
    cases d <;> simp only [strsD] at e <;> (try cases e)
    cases q : strsD ds with
    | none => simp [q] at e
    | some b' =>
      simp [q] at e; subst e
      cases r with
      | str h =>
        obtain ⟨h1, h2⟩ := strs_rep rs q
        refine ⟨by rw [h1]; rfl, fun x hx => ?_⟩
        rcases List.mem_cons.mp hx with rfl | hx
        · exact h
        · exact h2 x hx
theorem rep_ints : ∀ ns : List Int, RepL G H S (ns.map V.int) (ns.map D.int)
  | [] => .nil
  | _ :: r => .cons .int (rep_ints r)
theorem rep_strs : ∀ {xs : List Str}, (∀ x ∈ xs, sOk x) → RepL G H S (xs.map V.str) (xs.map D.str)
  | [], _ => .nil
  | x :: r, h => .cons (.str (h x List.mem_cons_self)) (rep_strs fun y hy => h y (List.mem_cons_of_mem _ hy))
def sumP : D → RP
  | .lst xs => (intsD xs).map fun bs => (.int bs.sum, false)
  | _ => none
theorem sumP_ok {K : PySem.W.Frag} : P1 G (fun v H Q => rSum K [v] H Q) sumP := fun H S v x d o Q hS rx e k => by
  cases x <;> simp only [sumP] at e <;> (try cases e)
  rename_i xs
  cases q : intsD xs with
  | none => simp [q] at e
  | some bs =>
    simp [q] at e
    obtain ⟨rfl, rfl⟩ := e
    obtain ⟨a, vs, rfl, h1, h2, h3⟩ := rx.lst
    rw [ints_rep h3 q] at h1
    exact ⟨a, bs, rfl, SqL.of h1, k_int k⟩
/-! ### int, abs -/
def int1P : D → RP
  | .int i => some (.int i, false)
  | .bl b => some (.int (if b then 1 else 0), false)
  | _ => none
theorem int1P_ok : P1 G (fun v H Q => (∃ i, [v] = [V.int i] ∧ Q (.int i) H) ∨ ∃ k, [v] = [V.bl k] ∧ Q (.int (if k then 1 else 0)) H) int1P := fun H S v x d o Q hS rx e k => by
  cases x <;> simp only [int1P] at e <;> (try cases e)
  · exact .inr ⟨_, by rw [rx.bl], k_int k⟩
  · exact .inl ⟨_, by rw [rx.int], k_int k⟩
def absP : D → RP
  | .int i => some (.int (if i < 0 then -i else i), false)
  | _ => none
theorem absP_ok : P1 G (fun v H Q => ∃ i, [v] = [V.int i] ∧ Q (.int (if i < 0 then -i else i)) H) absP := fun H S v x d o Q hS rx e k => by
  cases x <;> simp only [absP] at e <;> (try cases e)
  exact ⟨_, by rw [rx.int], k_int k⟩
/-! ### list(x), tuple(x) -/
def listP : D → RP
  | .lst xs => some (.lst xs, true)
  | .tup xs => some (.lst xs, true)
  | .scr xs => some (.lst (xs.map D.int), true)
  | _ => none
theorem listP_ok {K : PySem.W.Frag} (hK : G.K = K) (hz : ∀ (a : Addr) (o : Obj) (ns : List Int), True) : P1 G (fun v H Q => ∃ p ys, [v] = [V.ref p] ∧ (SqL K H p ys ∨ SqT K H p ys) ∧ ∀ l, H l = none → Q (.ref l) (L2.upd H l (.lst ys)))
    (fun x => match x with | .scr _ => none | x => listP x) := fun H S v x d o Q hS rx e k => by
  cases x <;> simp only [listP] at e <;> (try cases e)
  · obtain ⟨a, vs, rfl, h1, h2, h3⟩ := rx.tup hK
    exact ⟨a, vs, rfl, .inr h1, fun l hl => k _ _ (New.lst hS hl h3 h2)⟩
  · obtain ⟨a, vs, rfl, h1, h2, h3⟩ := rx.lst
    exact ⟨a, vs, rfl, .inl (SqL.of h1), fun l hl => k _ _ (New.lst hS hl h3 h2)⟩
def tupleP : D → RP
  | .lst xs => some (.tup xs, false)
  | .tup xs => some (.tup xs, false)
  | _ => none
theorem tupleP_ok {K : PySem.W.Frag} (hK : G.K = K) : P1 G (fun v H Q => ∃ p ys, [v] = [V.ref p] ∧ ((SqL K H p ys ∧ ∀ l, H l = none → Q (.ref l) (L2.upd H l (.tup ys))) ∨ (SqT K H p ys ∧ Q (.ref p) H))) tupleP := fun H S v x d o Q hS rx e k => by
  cases x <;> simp only [tupleP] at e <;> (try cases e)
  · obtain ⟨a, vs, rfl, h1, h2, h3⟩ := rx.tup hK
    refine ⟨a, vs, rfl, .inr ⟨h1, k _ _ (New.same ?_)⟩⟩
    rcases rx with h | ⟨_, _, h⟩
    · exact h
    · exact h.elim
  · obtain ⟨a, vs, rfl, h1, h2, h3⟩ := rx.lst
    exact ⟨a, vs, rfl, .inl ⟨SqL.of h1, fun l hl => k _ _ (New.tup hS hl h3 h2)⟩⟩
/-! ### items -/
theorem atI_rep {vs : List V} {ds : List D} {i : Int} {d : D} (r : RepL G H S vs ds) (e : atI ds i = some d) : ∃ v, atI vs i = some v ∧ Rep G H S v d := by
  unfold atI at *
  rw [r.length]
  cases q : ixN ds.length i with
  | none => rw [q] at e; cases e
  | some j =>
    rw [q] at e
    have e : ds[j]? = some d := e
    obtain ⟨v, h1, h2⟩ := r.get e
    exact ⟨v, h1, h2⟩
def ixP : D → D → RP
  | .lst ds, .int i => (atI ds i).map fun d => (d, false)
  | .tup ds, .int i => (atI ds i).map fun d => (d, false)
  | .str z, .int i => (atI z.cps.toList i).map fun c => (.str ⟨#[c]⟩, false)
  | _, _ => none
theorem sOk_one {z : Str} {c : Nat} (h : sOk z) (hc : c ∈ z.cps.toList) : sOk ⟨#[c]⟩ := by
  refine ⟨by show 1 ≤ sizeLine; decide, ?_⟩
  have := h.2
  unfold PyData.strOk at *
  rw [← Array.all_toList, List.all_eq_true] at this
  have := this c hc
  simpa using this
theorem atI_mem {α : Type} {xs : List α} {i : Int} {v : α} (h : atI xs i = some v) : v ∈ xs := by
  obtain ⟨j, _, h, _⟩ := atI_get h
  exact List.mem_of_getElem? h
theorem ixP_ok {K : PySem.W.Frag} (hK : G.K = K) : P2 G (rIx K) ixP := fun H S v w x y d o Q hS rx ry e k => by
  cases x <;> cases y <;> simp only [ixP] at e <;> (try cases e)
  · rename_i z i
    cases q : atI z.cps.toList i with
    | none => simp [q] at e
    | some c =>
      simp [q] at e
      obtain ⟨rfl, rfl⟩ := e
      obtain ⟨r1, h⟩ := rx.str
      exact .inr (.inr ⟨z, i, c, r1, ry.int, h.1, q, k _ _ (New.same (.str (sOk_one h (atI_mem q))))⟩)
  · rename_i ds i
    cases q : atI ds i with
    | none => simp [q] at e
    | some d' =>
      simp [q] at e
      obtain ⟨rfl, rfl⟩ := e
      obtain ⟨a, vs, rfl, h1, h2, h3⟩ := rx.tup hK
      obtain ⟨u, q1, r⟩ := atI_rep h3 q
      exact .inr (.inl ⟨a, vs, i, u, rfl, ry.int, h1, q1, k _ _ (New.same r)⟩)
  · rename_i ds i
    cases q : atI ds i with
    | none => simp [q] at e
    | some d' =>
      simp [q] at e
      obtain ⟨rfl, rfl⟩ := e
      obtain ⟨a, vs, rfl, h1, h2, h3⟩ := rx.lst
      obtain ⟨u, q1, r⟩ := atI_rep h3 q
      exact .inl ⟨a, vs, i, u, rfl, ry.int, SqL.of h1, q1, k _ _ (New.same r)⟩
end
end DL

set_option Elab.async false
set_option linter.all false
set_option maxRecDepth 100000
set_option maxHeartbeats 1000000
/-! DL7: statements. -/
namespace DL
open PySem L2
def PostS (G : Ctx) (W : WX) (g : Gh) (H : Hp) (S : Sset) (Z : Ends) : RS → Prop
  | .nx e => ∀ σ' H' S', Grow S H S' H' → SI G g σ' H' e S' [] → Z.nx σ' H'
  | .rt d o e => ∀ v σ' H' S', Grow S H S' H' → Val G g σ' H' e S' [] v d o → Z.rt v H'
  | .bk e => ∀ σ' H' S', Grow S H S' H' → SI G g σ' H' e S' [] → Z.bk σ' H'
  | .ct e => ∀ σ' H' S', Grow S H S' H' → SI G g σ' H' e S' [] → Z.ct σ' H'
  | .exc c fs e => ∀ cls dd σ' H' S', Grow S H S' H' → SI G g σ' H' e S' [] → ExcRep G H' S' cls dd c fs → W cls dd σ' H'
  | .bad => False
def trS (G : Ctx) (W : WX) (m : MS) : TS := fun Z σ H => ∃ g env S, SI G g σ H env S [] ∧ PostS G W g H S Z (m env)
abbrev DS (X : Cx) (G : Ctx) (W : WX) (st : Stmt) (m : MS) := PS X st (trS G W m)
abbrev DSs (X : Cx) (G : Ctx) (W : WX) (st : List Stmt) (m : MS) := PSs X st (trS G W m)
section
variable {X : Cx} {G : Ctx} {W : WX} {g : Gh} {σ : St} {H H1 : Hp} {env env1 : EV} {S S1 : Sset} {P : List (Addr × D)} {Z : Ends} {v : V} {d : D} {o : Bool} {st : Stmt} {rest : List Stmt} {a b : MS} {e : Expr} {m : ME} {pos : Pos}
theorem PostS.mono {r : RS} (gr : Grow S H S1 H1) (h : PostS G W g H S Z r) : PostS G W g H1 S1 Z r := by
  cases r with
  | nx e => exact fun σ' H' S' g' q => h σ' H' S' (gr.trans g') q
  | rt d o e => exact fun v σ' H' S' g' q => h v σ' H' S' (gr.trans g') q
  | bk e => exact fun σ' H' S' g' q => h σ' H' S' (gr.trans g') q
  | ct e => exact fun σ' H' S' g' q => h σ' H' S' (gr.trans g') q
  | exc c fs e => exact fun cls dd σ' H' S' g' q r => h cls dd σ' H' S' (gr.trans g') q r
  | bad => exact h
def mNext : MS := fun e => .nx e
def mSeq (a b : MS) : MS := fun env => match a env with
  | .nx e => b e
  | r => r
theorem dss_nil : DSs X G W [] mNext := pssImp pss_nil fun Z σ H ⟨g, env, S, I, h⟩ => h σ H S Grow.rfl' I
theorem dss_cons (h1 : DS X G W st a) (h2 : DSs X G W rest b) : DSs X G W (st :: rest) (mSeq a b) :=
  pssImp (pss_cons h1 h2) fun Z σ H ⟨g, env, S, I, h⟩ => by
    refine ⟨g, env, S, I, ?_⟩
    unfold mSeq at h
    cases q : a env with
    | nx e =>
      simp only [q] at h
      exact fun σ' H' S' gr I' => ⟨g, e, S', I', h.mono gr⟩
    | rt d o e => simp only [q] at h; exact h
    | bk e => simp only [q] at h; exact h
    | ct e => simp only [q] at h; exact h
    | exc c fs e => simp only [q] at h; exact h
    | bad => simp only [q] at h; exact h
theorem dss_one (h1 : DS X G W st a) : DSs X G W [st] a := pss_one h1
def mPass : MS := fun e => .nx e
def mBrk : MS := fun e => .bk e
def mCnt : MS := fun e => .ct e
theorem ds_pass : DS X G W (.Pass pos) mPass := psImp ps_pass fun Z σ H ⟨g, env, S, I, h⟩ => h σ H S Grow.rfl' I
theorem ds_brk : DS X G W (.Break pos) mBrk := psImp ps_break fun Z σ H ⟨g, env, S, I, h⟩ => h σ H S Grow.rfl' I
theorem ds_cnt : DS X G W (.Continue pos) mCnt := psImp ps_continue fun Z σ H ⟨g, env, S, I, h⟩ => h σ H S Grow.rfl' I
/-! ### statements over an expression -/
def bindS (m : ME) (k : D → Bool → MS) : MS := fun env => match m env with
  | .ok d o e => k d o e
  | .exc c fs e => .exc c fs e
  | .bad => .bad
theorem bindS_ok {m : ME} {k : D → Bool → MS} {R : VK} (I : SI G g σ H env S []) (h : PostS G W g H S Z (bindS m k env))
    (hk : ∀ d o env1 v H1 S1, Grow S H S1 H1 → Val G g σ H1 env1 S1 [] v d o → PostS G W g H1 S1 Z (k d o env1) → R v H1) : trE G W m σ H R := by
  refine ⟨g, env, S, [], I, ?_⟩
  unfold bindS at h
  cases q : m env with
  | ok d o e =>
    rw [q] at h
    exact fun v H1 S1 gr hv => hk d o e v H1 S1 gr hv (h.mono gr)
  | exc c fs e => rw [q] at h; exact fun cls dd H' S' gr I' r => h cls dd σ H' S' gr I' r
  | bad => rw [q] at h; exact h
def bindTS (m : MT) (k : Bool → MS) : MS := fun env => match m env with
  | .ok b e => k b e
  | .exc c fs e => .exc c fs e
  | .bad => .bad
theorem bindTS_ok {m : MT} {k : Bool → MS} {R : Bool → Hp → Prop} (I : SI G g σ H env S []) (h : PostS G W g H S Z (bindTS m k env))
    (hk : ∀ b env1 H1 S1, Grow S H S1 H1 → SI G g σ H1 env1 S1 [] → PostS G W g H1 S1 Z (k b env1) → R b H1) : trT G W m σ H R := by
  refine ⟨g, env, S, [], I, ?_⟩
  unfold bindTS at h
  cases q : m env with
  | ok b e =>
    rw [q] at h
    exact fun H1 S1 gr I1 => hk b e H1 S1 gr I1 (h.mono gr)
  | exc c fs e => rw [q] at h; exact fun cls dd H' S' gr I' r => h cls dd σ H' S' gr I' r
  | bad => rw [q] at h; exact h
theorem Val.drop (h : Val G g σ H env S P v d o) : SI G g σ H env S P := by
  cases o with
  | false => exact h.1
  | true => obtain ⟨a, _, I⟩ := h; exact I.pop
def mExpr (m : ME) : MS := bindS m fun _ _ e => .nx e
theorem ds_expr (he : DE X G W e m) (hs : swapsWith e none pos.line X.env = pure false := by rfl) : DS X G W (.Expr e pos) (mExpr m) :=
  psImp (ps_expr he hs) fun Z σ H ⟨g, env, S, I, h⟩ => bindS_ok I h fun d o env1 v H1 S1 gr hv h => h σ H1 S1 Grow.rfl' hv.drop
theorem ds_doc {x j pos pos'} : DS X G W (.Expr (.Constant (.str x) j pos) pos') mPass := psImp ps_doc fun Z σ H ⟨g, env, S, I, h⟩ => h σ H S Grow.rfl' I
def mRet (m : ME) : MS := bindS m fun d o e => .rt d o e
theorem ds_ret (he : DE X G W e m) : DS X G W (.Return (some e) pos) (mRet m) :=
  psImp (ps_ret he) fun Z σ H ⟨g, env, S, I, h⟩ => bindS_ok I h fun d o env1 v H1 S1 gr hv h => h v σ H1 S1 Grow.rfl' hv
def mRetN : MS := fun e => .rt .non false e
theorem ds_retN : DS X G W (.Return none pos) mRetN := psImp ps_retN fun Z σ H ⟨g, env, S, I, h⟩ => h _ σ H S Grow.rfl' ⟨I, .non⟩
def mIfS (t : MT) (a b : MS) : MS := bindTS t fun k => match k with | true => a | false => b
theorem ds_if {c : Expr} {mc : MT} {sa sb : List Stmt} (hc : DT X G W c mc) (ha : DSs X G W sa a) (hb : DSs X G W sb b) : DS X G W (.If c sa sb pos) (mIfS mc a b) :=
  psImp (ps_if hc ha hb) fun Z σ H ⟨g, env, S, I, h⟩ => bindTS_ok I h fun k env1 H1 S1 gr I1 h => by
    cases k with
    | true => exact iteT ⟨g, env1, S1, I1, h⟩
    | false => exact iteF ⟨g, env1, S1, I1, h⟩
/-! ### names stored -/
def tg (o : Bool) : Tag := match o with | true => .o | false => .s
/-- a slot that may be stored -/
def freeE (env : EV) (i : Nat) : Bool := match env[i]? with
  | some (some (_, .p)) => false
  | some _ => true
  | none => false
theorem freeE_ok {i : Nat} (h : freeE env i = true) : ∃ r, env[i]? = some r ∧ ∀ e, r ≠ some (e, .p) := by
  unfold freeE at h
  cases q : env[i]? with
  | none => rw [q] at h; cases h
  | some r =>
    rw [q] at h
    refine ⟨r, rfl, fun e z => ?_⟩
    subst z; cases h
def setE (i : Nat) (d : D) (o : Bool) : MS := fun env => match freeE env i with
  | true => .nx (env.set i (some (d, tg o)))
  | false => .bad
theorem Val.set {i : Nat} (hv : Val G g σ H env S P v d o) (h : freeE env i = true) : SI G g (σ.set i (some v)) H (env.set i (some (d, tg o))) S P := by
  obtain ⟨r, h1, h2⟩ := freeE_ok h
  cases o with
  | false => exact hv.1.setS h1 h2 hv.2
  | true =>
    obtain ⟨a, rfl, I⟩ := hv
    exact I.setO h1 h2
theorem setE_ok {i : Nat} (hv : Val G g σ H env S [] v d o) (h : PostS G W g H S Z (setE i d o env)) : Z.nx (σ.set i (some v)) H := by
  unfold setE at h
  cases q : freeE env i with
  | false => rw [q] at h; exact h.elim
  | true => rw [q] at h; exact h _ _ _ Grow.rfl' (hv.set q)
def mSet (i : Nat) (m : ME) : MS := bindS m fun d o => setE i d o
theorem ds_set {i : Nat} {x : Str} {pos' : Pos} (hN : X.N.Nodup) (hi : X.N[i]? = some x) (hx : Loc X.env.scope x) (he : DE X G W e m) (hs : swapsWith e (some (.Name x pos')) pos.line X.env = pure false := by rfl)
    (hf : X.fn x = true ∨ X.env.scope.names.lookup x = some .local := by first | exact .inl rfl | exact .inr rfl | assumption) : DS X G W (.Assign [.Name x pos'] e pos) (mSet i m) :=
  psImp (ps_set hN hi hx he hs hf) fun Z σ H ⟨g, env, S, I, h⟩ => bindS_ok I h fun d o env1 v H1 S1 gr hv h => setE_ok hv h
/-- a, b = x, y -/
def mPar (i j : Nat) (m1 m2 : ME) : MS := bindS m1 fun d1 o1 => bindS m2 fun d2 o2 env => match freeE env i && (freeE env j && decide (i ≠ j)) with
  | true => .nx ((env.set i (some (d1, tg o1))).set j (some (d2, tg o2)))
  | false => .bad
theorem PostE.ofS {Q : VK} {m2 : ME} {k : D → Bool → MS} (h : PostS G W g H S Z (bindS m2 k env))
    (hk : ∀ d o env1 v H1 S1, m2 env = .ok d o env1 → Grow S H S1 H1 → Val G g σ H1 env1 S1 P v d o → PostS G W g H1 S1 Z (k d o env1) → Q v H1) (hP : ∀ H' e' S', SI G g σ H' e' S' P → SI G g σ H' e' S' []) : PostE G W g σ H S P Q (m2 env) := by
  unfold bindS at h
  cases q : m2 env with
  | ok d o e =>
    rw [q] at h
    exact fun v H1 S1 gr hv => hk d o e v H1 S1 q gr hv (h.mono gr)
  | exc c fs e => rw [q] at h; exact fun cls dd H' S' gr I' r => h cls dd σ H' S' gr (hP _ _ _ I') r
  | bad => rw [q] at h; exact h
theorem SI.nilP (I : SI G g σ H env S P) : SI G g σ H env S [] := by
  induction P with
  | nil => exact I
  | cons p P ih => exact ih I.pop
theorem SI.rot {x y : Addr × D} (I : SI G g σ H env S (x :: y :: P)) : SI G g σ H env S (y :: x :: P) := by
  have pu := I.pun
  rw [List.map_cons, List.map_cons, List.nodup_cons, List.nodup_cons] at pu
  have hx := I.pend x List.mem_cons_self
  refine (I.pop.pop.push hx.1 hx.2 (fun p hp q => ?_) (I.pdis x List.mem_cons_self)).push (I.pend y (List.mem_cons_of_mem _ List.mem_cons_self)).1 (I.pend y (List.mem_cons_of_mem _ List.mem_cons_self)).2 (fun p hp q => ?_) (I.pdis y (List.mem_cons_of_mem _ List.mem_cons_self))
  · exact pu.1 (List.mem_cons_of_mem _ (q ▸ List.mem_map_of_mem hp))
  · rcases List.mem_cons.mp hp with rfl | hp
    · exact pu.1 (by rw [q]; exact List.mem_cons_self)
    · exact pu.2.1 (q ▸ List.mem_map_of_mem hp)
theorem set_free {i j : Nat} {r : D × Tag} (hij : i ≠ j) (h : freeE env j = true) : freeE (env.set i (some r)) j = true := by
  unfold freeE at *
  rw [List.getElem?_set_ne hij]; exact h
theorem ds_par {i j : Nat} {x y : Str} {e1 e2 : Expr} {m1 m2 : ME} {px py pt : Pos} {kt k2 pt2} (hc : X.calm = true) (hN : X.N.Nodup) (hi : X.N[i]? = some x) (hj : X.N[j]? = some y) (hij : i ≠ j)
    (hx : X.env.scope.names.lookup x = some .local) (hy : X.env.scope.names.lookup y = some .local) (h1 : DE X G W e1 m1) (h2 : DE X G W e2 m2)
    (hw : swappedStores [.Tuple [.Name x px, .Name y py] kt pt] (.Tuple [e1, e2] k2 pt2) X.env = pure (some [x, y]) := by rfl)
    (hs : swapsWithSole [.Tuple [.Name x px, .Name y py] kt pt] (.Tuple [e1, e2] k2 pt2) pos.line X.env = pure false := by rfl)
    (q1 : starEach (e1 :: e2 :: []) X.env = (false, eval e1 X.env) :: starEach [e2] X.env := by rfl) (q2 : starEach (e2 :: []) X.env = (false, eval e2 X.env) :: starEach [] X.env := by rfl) :
    DS X G W (.Assign [.Tuple [.Name x px, .Name y py] kt pt] (.Tuple [e1, e2] k2 pt2) pos) (mPar i j m1 m2) :=
  psImp (ps_par hc hN hi hj hij hx hy (pa_cons h1 (pa_cons h2 pa_nil q2) q1) hw hs) fun Z σ H ⟨g, env, S, I, h⟩ => bindS_ok I h fun d1 o1 env1 v H1 S1 gr hv h => by
    -- the first value is pending while the second is reckoned
    cases o1 with
    | false =>
      obtain ⟨I1, r1⟩ := hv
      refine ⟨g, env1, S1, [], I1, PostE.ofS h (fun d2 o2 env2 w H2 S2 _ g2 hv2 h => ?_) (fun _ _ _ I => I)⟩
      cases q : freeE env2 i && (freeE env2 j && decide (i ≠ j)) with
      | false => simp only [q] at h; exact h.elim
      | true =>
        simp only [q] at h
        obtain ⟨f1, f2⟩ := Bool.and_eq_true_iff.mp q
        obtain ⟨f2, _⟩ := Bool.and_eq_true_iff.mp f2
        obtain ⟨r, k1, k2⟩ := freeE_ok f1
        refine ⟨v, w, rfl, h _ _ S2 Grow.rfl' ?_⟩
        cases o2 with
        | false => exact ((hv2.1.setS k1 k2 (r1.mono g2))).setS (freeE_ok (set_free hij f2)).choose_spec.1 (freeE_ok (set_free hij f2)).choose_spec.2 hv2.2
        | true =>
          obtain ⟨b, rfl, I2⟩ := hv2
          exact (I2.setS k1 k2 (r1.mono g2)).setO (freeE_ok (set_free hij f2)).choose_spec.1 (freeE_ok (set_free hij f2)).choose_spec.2
    | true =>
      obtain ⟨a, rfl, I1⟩ := hv
      refine ⟨g, env1, S1, [(a, d1)], I1, PostE.ofS h (fun d2 o2 env2 w H2 S2 _ g2 hv2 h => ?_) (fun _ _ _ I => I.nilP)⟩
      cases q : freeE env2 i && (freeE env2 j && decide (i ≠ j)) with
      | false => simp only [q] at h; exact h.elim
      | true =>
        simp only [q] at h
        obtain ⟨f1, f2⟩ := Bool.and_eq_true_iff.mp q
        obtain ⟨f2, _⟩ := Bool.and_eq_true_iff.mp f2
        obtain ⟨r, k1, k2⟩ := freeE_ok f1
        refine ⟨.ref a, w, rfl, h _ _ S2 Grow.rfl' ?_⟩
        cases o2 with
        | false => exact (hv2.1.setO k1 k2).setS (freeE_ok (set_free hij f2)).choose_spec.1 (freeE_ok (set_free hij f2)).choose_spec.2 hv2.2
        | true =>
          obtain ⟨b, rfl, I2⟩ := hv2
          exact (I2.rot.setO k1 k2).setO (freeE_ok (set_free hij f2)).choose_spec.1 (freeE_ok (set_free hij f2)).choose_spec.2
/-! ### a local name moved out -/
theorem SI.moveVar {i : Nat} (I : SI G g σ H env S P) (h : env[i]? = some (some (d, .o))) : ∃ a, σ[i]? = some (some (.ref a)) ∧ SI G g σ H (env.set i none) S ((a, d) :: P) := by
  obtain ⟨a, h1, h2, h3⟩ := I.own i d .o (by decide) h
  have old : ∀ {j : Nat} {e : D} {t : Tag}, (env.set i none)[j]? = some (some (e, t)) → i ≠ j ∧ env[j]? = some (some (e, t)) := fun {j e t} q => by
    rcases get_set q with ⟨_, q⟩ | q
    · cases q
    · exact q
  have I' : SI G g σ H (env.set i none) S P := by
    refine ⟨by rw [List.length_set]; exact I.len, fun j e q => I.shr j e (old q).2, fun j e t ht q => I.own j e t ht (old q).2, fun j k e e' t u b ht hu q q' => I.uniq j k e e' t u b ht hu (old q).2 (old q').2, fun j e q => I.pin j e (old q).2, fun b hb hn => ?_, I.pend, I.pun, fun p hp j e t ht q => I.pdis p hp j e t ht (old q).2, I.fr, I.sh0, I.sh1, I.shH, I.tab, I.nt⟩
    obtain ⟨e, q⟩ := I.pin0 b hb hn
    refine ⟨e, ?_⟩
    have : i ≠ 0 := fun z => by subst z; rw [h] at q; injection q with q; injection q with q; injection q with _ q; cases q
    rw [List.getElem?_set_ne this]; exact q
  refine ⟨a, h1, I'.push h2 h3 (fun p hp q => I.pdis p hp i d .o (by decide) h (q ▸ h1)) fun j e t ht q z => ?_⟩
  exact (old q).1 (I.uniq i j d e .o t a (by decide) ht h (old q).2 h1 z)
theorem de_mv {i : Nat} {x : Str} {pos : Pos} (h : PE X (.Name x pos) (tVar i)) : DE X G W (.Name x pos) (mMv i) := peImp h fun σ H Q ⟨g, env, S, P, I, q⟩ => by
  unfold mMv at q
  cases e : env[i]? with
  | none => rw [e] at q; exact q.elim
  | some r =>
    rw [e] at q
    cases r with
    | none => exact q.elim
    | some dt =>
      obtain ⟨d, t⟩ := dt
      cases t with
      | s =>
        obtain ⟨v, h1, h2⟩ := I.shr i d e
        exact ⟨v, h1, q v H S Grow.rfl' ⟨I, h2⟩⟩
      | o =>
        obtain ⟨a, h1, I'⟩ := I.moveVar e
        exact ⟨.ref a, h1, q _ H S Grow.rfl' ⟨a, rfl, I'⟩⟩
      | p => exact q.elim
end
end DL

set_option Elab.async false
set_option linter.all false
set_option maxRecDepth 100000
set_option maxHeartbeats 1000000
/-! DL8: targets, what is walked, for, comprehensions. -/
namespace DL
open PySem L2
/-! ### targets -/
inductive Tgt where
  | nm (i : Nat) | tp (ts : List Tgt)
mutual
def setTg : Tgt → D → EV → Option EV
  | .nm i, d, env => match freeE env i with | true => some (env.set i (some (d, .s))) | false => none
  | .tp ts, .tup ds, env => setTgs ts ds env
  | _, _, _ => none
def setTgs : List Tgt → List D → EV → Option EV
  | [], [], env => some env
  | t :: ts, d :: ds, env => match setTg t d env with
    | some e => setTgs ts ds e
    | none => none
  | _, _, _ => none
end
mutual
def slots : Tgt → List Nat
  | .nm i => [i]
  | .tp ts => slotsL ts
def slotsL : List Tgt → List Nat
  | [] => []
  | t :: ts => slots t ++ slotsL ts
end
/-- other slots stand -/
def Keeps (vs : List Nat) (σ σ' : St) : Prop := σ'.length = σ.length ∧ ∀ i, i ∉ vs → σ'[i]? = σ[i]?
def trG (G : Ctx) (t : Tgt) : TG := fun v σ H Q => ∃ g env S P d e', SI G g σ H env S P ∧ Rep G H S v d ∧ setTg t d env = some e' ∧ ∀ σ', Keeps (slots t) σ σ' → SI G g σ' H e' S P → Q σ' H
def trGs (G : Ctx) (ts : List Tgt) : TGs := fun vs σ H Q => ∃ g env S P ds e', SI G g σ H env S P ∧ RepL G H S vs ds ∧ setTgs ts ds env = some e' ∧ ∀ σ', Keeps (slotsL ts) σ σ' → SI G g σ' H e' S P → Q σ' H
abbrev DG (X : Cx) (G : Ctx) (tg : Expr) (t : Tgt) := PG X tg (trG G t)
abbrev DGs (X : Cx) (G : Ctx) (tg : List Expr) (t : List Tgt) := PGs X tg (trGs G t)
theorem setTgs_len : ∀ {ts : List Tgt} {ds : List D} {env e : EV}, setTgs ts ds env = some e → ts.length = ds.length
  | [], [], _, _, _ => rfl
  | [], _ :: _, _, _, h => by simp [setTgs] at h
  | _ :: _, [], _, _, h => by simp [setTgs] at h
  | t :: ts, d :: ds, env, e, h => by
    simp only [setTgs] at h
    cases q : setTg t d env with
    | none => simp [q] at h
    | some e1 => simp only [q] at h; simp [setTgs_len h]
section
variable {X : Cx} {G : Ctx} {W : WX} {g : Gh} {σ : St} {H H1 : Hp} {env env1 : EV} {S S1 : Sset} {P : List (Addr × D)} {Z : Ends} {v : V} {d : D} {o : Bool} {e : Expr} {m : ME} {pos : Pos}
theorem pgImp {e : Expr} {t t' : TG} (h : PG X e t) (i : ∀ v σ H Q, t' v σ H Q → t v σ H Q) : PG X e t' := ⟨fun pins s σ H v u Q I r q => h.run pins s σ H v u Q I r (i _ _ _ _ q)⟩
theorem pgsImp {e : List Expr} {t t' : TGs} (h : PGs X e t) (i : ∀ v σ H Q, t' v σ H Q → t v σ H Q) : PGs X e t' := ⟨fun pins s σ H v u Q I r q => h.run pins s σ H v u Q I r (i _ _ _ _ q)⟩
theorem piImp {tg e : Expr} {t t' : TI} (h : PI X tg e t) (i : ∀ σ H Q, t' σ H Q → t σ H Q) : PI X tg e t' := ⟨fun pins s σ H R I q => h.run pins s σ H R I (i _ _ _ q)⟩
theorem piOr {tg e : Expr} {t t' : TI} (h : PI X tg e t) (h' : PI X tg e t') : PI X tg e (fun σ H R => t σ H R ∨ t' σ H R) := ⟨fun pins s σ H R I q => q.elim (h.run pins s σ H R I) (h'.run pins s σ H R I)⟩
theorem dg_nm {i : Nat} {x : Str} (hN : X.N.Nodup) (hi : X.N[i]? = some x) (hx : Loc X.env.scope x) (hf : X.fn x = true ∨ X.env.scope.names.lookup x = some .local := by first | exact .inl rfl | exact .inr rfl | assumption) : DG X G (.Name x pos) (.nm i) :=
  pgImp (pg_name hN hi hx hf) fun v σ H Q ⟨g, env, S, P, d, e', I, r, h, k⟩ => by
    simp only [setTg] at h
    cases q : freeE env i with
    | false => simp [q] at h
    | true =>
      simp only [q] at h
      injection h with h
      subst h
      obtain ⟨r0, h1, h2⟩ := freeE_ok q
      refine k _ ⟨by rw [List.length_set], fun j hj => ?_⟩ (I.setS h1 h2 r)
      have : i ≠ j := fun z => hj (by rw [z]; simp [slots])
      exact List.getElem?_set_ne this
theorem dgs_nil : DGs X G [] [] := pgsImp pgs_nil fun v σ H Q ⟨g, env, S, P, ds, e', I, r, h, k⟩ => by
  cases r with
  | nil =>
    simp only [setTgs] at h
    cases h
    exact ⟨rfl, k σ ⟨rfl, fun _ _ => rfl⟩ I⟩
  | cons a b => simp [setTgs] at h
theorem dgs_cons {e : Expr} {es : List Expr} {t : Tgt} {ts : List Tgt} (h1 : DG X G e t) (h2 : DGs X G es ts) (hs : (assignEach (e :: es) X.env).map (·.2) = assign e X.env :: (assignEach es X.env).map (·.2) := by rfl) : DGs X G (e :: es) (t :: ts) :=
  pgsImp (pgs_cons h1 h2 hs) fun vs σ H Q ⟨g, env, S, P, ds, e', I, r, h, k⟩ => by
    cases r with
    | nil => simp [setTgs] at h
    | @cons v d vs ds r rs =>
      simp only [setTgs] at h
      cases q : setTg t d env with
      | none => simp [q] at h
      | some e1 =>
        simp only [q] at h
        refine ⟨v, vs, rfl, g, env, S, P, d, e1, I, r, q, fun σ1 k1 I1 => ⟨g, e1, S, P, ds, e', I1, rs, h, fun σ2 k2 I2 => k σ2 ⟨k2.1.trans k1.1, fun i hi => ?_⟩ I2⟩⟩
        have hi : i ∉ slots t ++ slotsL ts := by simpa [slotsL] using hi
        rw [k2.2 i fun z => hi (List.mem_append_right _ z), k1.2 i fun z => hi (List.mem_append_left _ z)]
theorem dg_tp {es : List Expr} {k : Nat} {ts : List Tgt} (hK : G.K = X.K) (hc : X.calm = true) (h : DGs X G es ts) (hn : (assignEach es X.env).length = ts.length := by rfl) (hst : (assignEach es X.env).findIdx? (·.1) = none := by rfl) : DG X G (.Tuple es k pos) (.tp ts) :=
  pgImp (pg_tup hc h hn hst) fun v σ H Q ⟨g, env, S, P, d, e', I, r, h, k⟩ => by
    cases d with
    | tup ds =>
      simp only [setTg] at h
      obtain ⟨a, vs, rfl, h1, _, h3⟩ := (Rep.b r).tup hK
      exact ⟨a, vs, rfl, h1, by rw [h3.length]; exact (setTgs_len h).symm, g, env, S, P, ds, e', I, h3, h, fun σ' k' I' => k σ' (by simpa [slots] using k') I'⟩
    | _ => simp [setTg] at h
/-- target = e, e a tuple (given away) -/
def mUn (t : Tgt) (m : ME) : MS := bindS m fun d o env => match setTg t d env with
  | some e => match o with
    | false => .nx e
    | true => .bad
  | none => .bad
theorem ds_un {tg : Expr} {t : Tgt} (he : DE X G W e m) (hg : DG X G tg t) (hs : swapsWithSole [tg] e pos.line X.env = pure false := by rfl) (hw : swappedStores [tg] e X.env = pure none := by rfl)
    (h1 : (assignEach [tg] X.env).map (·.2) = [assign tg X.env] := by rfl) : DS X G W (.Assign [tg] e pos) (mUn t m) :=
  psImp (ps_asg he hg hs hw h1) fun Z σ H ⟨g, env, S, I, h⟩ => bindS_ok I h fun d o env1 v H1 S1 gr hv h => by
    cases q : setTg t d env1 with
    | none => simp only [q] at h; exact h.elim
    | some e2 =>
      simp only [q] at h
      cases o with
      | true => exact h.elim
      | false => exact ⟨g, env1, S1, [], d, e2, hv.1, hv.2, q, fun σ' _ I' => h σ' H1 S1 Grow.rfl' I'⟩

/-! ### what is walked -/
inductive RI where
  | ok (ds : List D) (e : EV) | exc (c : Nat) (fs : List D) (e : EV) | bad
abbrev MI := EV → RI
def Yields (G : Ctx) (J : It) (H' : Hp) (S' : Sset) (ds : List D) : Prop := ∀ (i : Nat) (S2 : Sset) (H2 : Hp), Grow S' H' S2 H2 → (∀ a, S2 a → ∃ o, H2 a = some o) →
  (i < ds.length → J.go i H2 ∧ ∀ x H3, J.yld i H2 x H3 → ∃ d, ds[i]? = some d ∧ New G H2 S2 x H3 d false) ∧ (ds.length ≤ i → J.stop i H2)
def PostI (G : Ctx) (W : WX) (g : Gh) (σ : St) (H : Hp) (S : Sset) (P : List (Addr × D)) (R : It → Hp → Prop) : RI → Prop
  | .ok ds e => ∀ J H' S', Grow S H S' H' → SI G g σ H' e S' P → Yields G J H' S' ds → ds.length ≤ sizeLine → R J H'
  | .exc c fs e => ∀ cls dd H' S', Grow S H S' H' → SI G g σ H' e S' P → ExcRep G H' S' cls dd c fs → W cls dd σ H'
  | .bad => False
def trI (G : Ctx) (W : WX) (m : MI) : TI := fun σ H R => ∃ g env S P, SI G g σ H env S P ∧ PostI G W g σ H S P R (m env)
abbrev DI (X : Cx) (G : Ctx) (W : WX) (tg e : Expr) (m : MI) := PI X tg e (trI G W m)
theorem PostI.mono {R : It → Hp → Prop} {r : RI} (gr : Grow S H S1 H1) (h : PostI G W g σ H S P R r) : PostI G W g σ H1 S1 P R r := by
  cases r with
  | ok ds e => exact fun J H' S' g' q => h J H' S' (gr.trans g') q
  | exc c fs e => exact fun cls dd H' S' g' q r => h cls dd H' S' (gr.trans g') q r
  | bad => exact h
def sgnD (z : Str) : List D := z.cps.toList.map fun c => D.str ⟨#[c]⟩
def itemsD : D → Option (List D)
  | .lst ds => some ds
  | .tup ds => some ds
  | .str z => some (sgnD z)
  | .scr ns => some (ns.map D.int)
  | _ => none
def bindI (m : ME) (k : D → Option (List D)) : MI := fun env => match m env with
  | .ok d _ e => match k d with
    | some ds => .ok ds e
    | none => .bad
  | .exc c fs e => .exc c fs e
  | .bad => .bad
def mSq (m : ME) : MI := bindI m itemsD
theorem yields_list {a : Addr} {vs : List V} {ds : List D} (hs : S a) (hH : H a = some (.lst vs)) (r : RepL G H S vs ds) : Yields G (Itl G.K a) H S ds := fun i S2 H2 gr hS => by
  have h2 : H2 a = some (.lst vs) := ((gr a hs).2).trans hH
  have r2 := r.mono gr
  refine ⟨fun hi => ?_, fun hi => ⟨vs, SqL.of h2, by rw [r2.length]; exact hi⟩⟩
  obtain ⟨v, q1, q2⟩ := r2.get (i := i) (d := ds[i]) (by simp [hi])
  exact ⟨⟨vs, v, SqL.of h2, q1⟩, fun x H3 ⟨e, h3⟩ => by
    subst e
    have := h3 vs (SqL.of h2)
    rw [q1] at this; injection this with this; subst this
    exact ⟨ds[i], by simp [hi], New.same q2⟩⟩
theorem yields_tup {a : Addr} {ds : List D} (h : Rep G H S (.ref a) (.tup ds)) : Yields G (Itt G.K a) H S ds := fun i S2 H2 gr hS => by
  obtain ⟨b, vs, e, h1, _, r⟩ := (Rep.b (h.mono gr)).tup rfl
  cases e
  refine ⟨fun hi => ?_, fun hi => ⟨vs, h1, by rw [r.length]; exact hi⟩⟩
  obtain ⟨v, q1, q2⟩ := r.get (i := i) (d := ds[i]) (by simp [hi])
  exact ⟨⟨vs, v, h1, q1⟩, fun x H3 ⟨e, h3⟩ => by
    subst e
    have := h3 vs h1
    rw [q1] at this; injection this with this; subst this
    exact ⟨ds[i], by simp [hi], New.same q2⟩⟩
theorem yields_str {z : Str} (h : sOk z) : Yields G (Its z) H S (sgnD z) := fun i S2 H2 gr hS => by
  have hl : (sgnD z).length = z.cps.size := by simp [sgnD]
  refine ⟨fun hi => ⟨by rw [hl] at hi; exact hi, fun x H3 ⟨e, c, h1, h2⟩ => ?_⟩, fun hi => by rw [hl] at hi; exact hi⟩
  subst e; subst h2
  have hc : z.cps.toList[i]? = some c := by rw [Array.getElem?_toList]; exact h1
  exact ⟨_, by unfold sgnD; rw [List.getElem?_map, hc]; rfl, New.same (.str (sOk_one h (List.mem_of_getElem? hc)))⟩
theorem yields_scr {a : Addr} {ob : Obj} {ns : List Int} (hs : S a) (hH : H a = some (.frz ob (.lst (ns.map V.int)))) : Yields G (Itl G.K a) H S (ns.map D.int) := fun i S2 H2 gr hS => by
  have h2 : H2 a = some (.frz ob (.lst (ns.map V.int))) := ((gr a hs).2).trans hH
  have sq : SqL G.K H2 a (ns.map V.int) := .inl (.inr ⟨ob, h2⟩)
  refine ⟨fun hi => ?_, fun hi => ⟨_, sq, by simpa using hi⟩⟩
  have hi : i < ns.length := by simpa using hi
  have q1 : (ns.map V.int)[i]? = some (V.int ns[i]) := by simp [hi]
  exact ⟨⟨_, _, sq, q1⟩, fun x H3 ⟨e, h3⟩ => by
    subst e
    have := h3 _ sq
    rw [q1] at this; injection this with this; subst this
    exact ⟨.int ns[i], by simp [hi], New.same .int⟩⟩
theorem di_sq {tg : Expr} (hK : G.K = X.K) (hz : ∀ ns : List Int, True) (he : DE X G W e m) : DI X G W tg e (bindI m fun d => match d with | .scr _ => none | d => itemsD d) :=
  piImp (piOr (pi_list he) (piOr (pi_tup he) (pi_str he))) fun σ H R ⟨g, env, S, P, I, h⟩ => by
    unfold bindI at h
    cases q : m env with
    | bad => simp only [q] at h; exact h.elim
    | exc c fs e1 =>
      simp only [q] at h
      exact .inl ⟨g, env, S, P, I, by rw [q]; exact h⟩
    | ok d o e1 =>
      simp only [q] at h
      cases d with
      | lst ds =>
        refine .inl ⟨g, env, S, P, I, ?_⟩
        rw [q]
        intro v H1 S1 gr hv
        obtain ⟨S2, g2, I2, r2⟩ := hv.frz
        cases r2 with
        | lst hs hH hl r => exact ⟨_, rfl, ⟨_, SqL.of hH⟩, by rw [← hK]; exact h _ H1 S2 (gr.trans g2) I2 (yields_list hs hH r) (by rw [← r.length]; exact hl)⟩
      | tup ds =>
        refine .inr (.inl ⟨g, env, S, P, I, ?_⟩)
        rw [q]
        intro v H1 S1 gr hv
        obtain ⟨S2, g2, I2, r2⟩ := hv.frz
        obtain ⟨a, vs, rfl, h1, h2, r⟩ := (Rep.b r2).tup hK
        exact ⟨_, rfl, ⟨_, h1⟩, by rw [← hK]; exact h _ H1 S2 (gr.trans g2) I2 (yields_tup r2) (by rw [← r.length]; exact h2)⟩
      | str z =>
        refine .inr (.inr ⟨g, env, S, P, I, ?_⟩)
        rw [q]
        intro v H1 S1 gr hv
        obtain ⟨S2, g2, I2, r2⟩ := hv.frz
        obtain ⟨rfl, hz⟩ := (Rep.b r2).str
        exact ⟨_, rfl, h _ H1 S2 (gr.trans g2) I2 (yields_str hz) (by simp only [sgnD, List.length_map, Array.length_toList]; exact hz.1)⟩
      | _ => exact h.elim
/-- range(n), range(a, b) -/
def rngD (a b : Int) : List D := (List.range (b - a).toNat).map fun (k : Nat) => D.int (a + k)
def mRg1 (m : ME) : MI := bindI m fun d => match d with
  | .int j => match decide (-(2 ^ 62) ≤ j) && decide (j ≤ 16777216) with
    | true => some (rngD 0 j)
    | false => none
  | _ => none
theorem yields_rng {a : Int} {n : Nat} : Yields G (Itr a n) H S ((List.range n).map fun (k : Nat) => D.int (a + k)) := fun i S2 H2 gr hS => by
  refine ⟨fun hi => ⟨(by simpa using hi : i < n), fun x H3 ⟨e, h⟩ => ?_⟩, fun hi => (by simpa using hi : n ≤ i)⟩
  subst e; subst h
  have hi : i < n := by simpa using hi
  exact ⟨.int (a + i), by simp [hi], New.same .int⟩
theorem di_rg1 {tg a : Expr} {p : Pos} (hg : Gl X "range") (hm : X.mg "range" = none) (ha : DE X G W a m) (hs : starEach [a] X.env = [(false, eval a X.env)] := by rfl)
    (hs' : starEach (a :: []) X.env = (false, eval a X.env) :: starEach [] X.env := by rfl) : DI X G W tg (.Call (.Name "range" p) [a] [] pos) (mRg1 m) :=
  piImp (pi_range1 hg hm (pa_cons ha pa_nil hs') hs) fun σ H R ⟨g, env, S, P, I, h⟩ => by
    refine ⟨g, env, S, P, I, ?_⟩
    unfold mRg1 bindI at h
    cases q : m env with
    | bad => simp only [q] at h; exact h.elim
    | exc c fs e1 => simp only [q] at h; exact h
    | ok d o e1 =>
      simp only [q] at h
      intro v H1 S1 gr hv
      obtain ⟨S2, g2, I2, r2⟩ := hv.frz
      cases d with
      | int j =>
        cases r2
        cases c : decide (-(2 ^ 62) ≤ j) && decide (j ≤ 16777216) with
        | false => simp only [c] at h; exact h.elim
        | true =>
          simp only [c] at h
          obtain ⟨c1, c2⟩ := Bool.and_eq_true_iff.mp c
          have c1 := of_decide_eq_true c1
          have c2 := of_decide_eq_true c2
          refine ⟨j, rfl, c1, by omega, ?_⟩
          have e0 : rngD 0 j = (List.range j.toNat).map fun (k : Nat) => D.int (0 + k) := by unfold rngD; rw [Int.sub_zero]
          refine h _ H1 S2 (gr.trans g2) I2 (by rw [e0]; exact yields_rng) ?_
          rw [e0, sizeLine_eq]; simp; omega
      | _ => exact h.elim
def mRg2 (m1 m2 : ME) : MI := fun env => match evL [m1, m2] env with
  | .ok ds e => match ds with
    | [.int i, .int j] => match decide (-(2 ^ 62) ≤ i) && (decide (i < 2 ^ 62) && (decide (-(2 ^ 62) ≤ j) && (decide (j < 2 ^ 62) && decide (j - i ≤ 16777216)))) with
      | true => .ok (rngD i j) e
      | false => .bad
    | _ => .bad
  | .exc c fs e => .exc c fs e
  | .bad => .bad
theorem di_rg2 {tg a b : Expr} {m1 m2 : ME} {p : Pos} (hg : Gl X "range") (hm : X.mg "range" = none) (ha : DA X G W [a, b] [m1, m2]) (hs : starEach [a, b] X.env = [(false, eval a X.env), (false, eval b X.env)] := by rfl) (hs2 : starEach [b] X.env = [(false, eval b X.env)] := by rfl) :
    DI X G W tg (.Call (.Name "range" p) [a, b] [] pos) (mRg2 m1 m2) :=
  piImp (pi_range2 hg hm ha hs hs2) fun σ H R ⟨g, env, S, P, I, h⟩ => by
    refine ⟨g, env, S, P, I, ?_⟩
    unfold mRg2 at h
    cases q : evL [m1, m2] env with
    | bad => simp only [q] at h; exact h.elim
    | exc c fs e1 => simp only [q] at h; exact h
    | ok ds e1 =>
      simp only [q] at h
      intro vs H1 S1 gr I1 r l
      split at h
      · rename_i i j
        cases r with
        | cons r1 r =>
          cases r with
          | cons r2 r =>
            cases r; cases r1; cases r2
            split at h
            · rename_i c
              simp only [Bool.and_eq_true, decide_eq_true_eq] at c
              refine ⟨i, j, rfl, ⟨c.1, c.2.1, c.2.2.1, c.2.2.2.1⟩, h _ H1 S1 gr I1 yields_rng ?_⟩
              unfold rngD
              rw [sizeLine_eq]; simp; omega
            · exact h.elim
      · exact h.elim
/-- zip(x, y) of two lists or two tuples; enumerate of a list -/
def zipD (xs ys : List D) : List D := (xs.zip ys).map fun p => D.tup [p.1, p.2]
def enumD (xs : List D) : List D := xs.zipIdx.map fun p => D.tup [.int p.2, p.1]
def mZip (m1 m2 : ME) : MI := fun env => match evL [m1, m2] env with
  | .ok ds e => match ds with
    | [.lst xs, .lst ys] => .ok (zipD xs ys) e
    | [.tup xs, .tup ys] => .ok (zipD xs ys) e
    | _ => .bad
  | .exc c fs e => .exc c fs e
  | .bad => .bad
theorem zipD_len {xs ys : List D} : (zipD xs ys).length = min xs.length ys.length := by simp [zipD]
theorem zipD_get {xs ys : List D} {i : Nat} {a b : D} (h1 : xs[i]? = some a) (h2 : ys[i]? = some b) : (zipD xs ys)[i]? = some (.tup [a, b]) := by
  unfold zipD
  rw [List.getElem?_map]
  have : (xs.zip ys)[i]? = some (a, b) := by
    rw [List.getElem?_zip_eq_some]; exact ⟨h1, h2⟩
  rw [this]; rfl
theorem yields_zip {a b : Addr} {vs ws : List V} {xs ys : List D} (hs : S a) (hH : H a = some (.lst vs)) (r : RepL G H S vs xs) (hs' : S b) (hH' : H b = some (.lst ws)) (r' : RepL G H S ws ys) : Yields G (Itz G.K a b) H S (zipD xs ys) := fun i S2 H2 gr hS => by
  have h2 : H2 a = some (.lst vs) := ((gr a hs).2).trans hH
  have h2' : H2 b = some (.lst ws) := ((gr b hs').2).trans hH'
  have r2 := r.mono gr
  have r2' := r'.mono gr
  refine ⟨fun hi => ?_, fun hi => ⟨vs, ws, SqL.of h2, SqL.of h2', ?_⟩⟩
  · rw [zipD_len] at hi
    have i1 : i < xs.length := by omega
    have i2 : i < ys.length := by omega
    obtain ⟨v, q1, q2⟩ := r2.get (i := i) (d := xs[i]) (by simp [i1])
    obtain ⟨w, q1', q2'⟩ := r2'.get (i := i) (d := ys[i]) (by simp [i2])
    refine ⟨⟨vs, ws, v, w, SqL.of h2, SqL.of h2', q1, q1'⟩, fun x H3 ⟨T, x1, y1, e1, e2, e3, k1, k2⟩ => ?_⟩
    have k1 := k1 vs (SqL.of h2)
    have k2 := k2 ws (SqL.of h2')
    rw [q1] at k1; injection k1 with k1; subst k1
    rw [q1'] at k2; injection k2 with k2; subst k2
    subst e1; subst e3
    exact ⟨_, zipD_get (by simp [i1]) (by simp [i2]), New.tup hS e2 (.cons q2 (.cons q2' .nil)) (by show 2 ≤ sizeLine; decide)⟩
  · rw [zipD_len] at hi
    have := r2.length
    have := r2'.length
    omega
theorem yields_zipT {a b : Addr} {xs ys : List D} (h : Rep G H S (.ref a) (.tup xs)) (h' : Rep G H S (.ref b) (.tup ys)) : Yields G (RZ.ItzT G.K a b) H S (zipD xs ys) := fun i S2 H2 gr hS => by
  obtain ⟨_, vs, e, h2, _, r2⟩ := (Rep.b (h.mono gr)).tup rfl
  cases e
  obtain ⟨_, ws, e, h2', _, r2'⟩ := (Rep.b (h'.mono gr)).tup rfl
  cases e
  refine ⟨fun hi => ?_, fun hi => ⟨vs, ws, h2, h2', ?_⟩⟩
  · rw [zipD_len] at hi
    have i1 : i < xs.length := by omega
    have i2 : i < ys.length := by omega
    obtain ⟨v, q1, q2⟩ := r2.get (i := i) (d := xs[i]) (by simp [i1])
    obtain ⟨w, q1', q2'⟩ := r2'.get (i := i) (d := ys[i]) (by simp [i2])
    refine ⟨⟨vs, ws, v, w, h2, h2', q1, q1'⟩, fun x H3 ⟨T, x1, y1, e1, e2, e3, k1, k2⟩ => ?_⟩
    have k1 := k1 vs h2
    have k2 := k2 ws h2'
    rw [q1] at k1; injection k1 with k1; subst k1
    rw [q1'] at k2; injection k2 with k2; subst k2
    subst e1; subst e3
    exact ⟨_, zipD_get (by simp [i1]) (by simp [i2]), New.tup hS e2 (.cons q2 (.cons q2' .nil)) (by show 2 ≤ sizeLine; decide)⟩
  · rw [zipD_len] at hi
    have := r2.length
    have := r2'.length
    omega
theorem di_zip {e2 : Expr} {m2 : ME} {p tpos : Pos} {elts : List Expr} {kk : Nat} (hK : G.K = X.K) (hg : Gl X "zip") (hm : X.mg "zip" = none) (ha : DA X G W [e, e2] [m, m2])
    (hs : starEach [e, e2] X.env = (false, eval e X.env) :: starEach [e2] X.env := by rfl) (hpl : (backTo pos (starEach [e2] X.env)).any (·.1) = false := by rfl) :
    DI X G W (.Tuple elts kk tpos) (.Call (.Name "zip" p) [e, e2] [] pos) (mZip m m2) :=
  piImp (RZ.pi_zipA hg hm ha hs hpl) fun σ H R ⟨g, env, S, P, I, h⟩ => by
    refine ⟨g, env, S, P, I, ?_⟩
    unfold mZip at h
    cases q : evL [m, m2] env with
    | bad => simp only [q] at h; exact h.elim
    | exc c fs e1 => simp only [q] at h; exact h
    | ok ds e1 =>
      simp only [q] at h
      intro vs H1 S1 gr I1 r l
      split at h
      · cases r with
        | cons r1 r =>
          cases r with
          | cons r2 r =>
            cases r
            cases r1 with
            | lst hs hH hl r1 =>
              cases r2 with
              | lst hs' hH' hl' r2 =>
                refine ⟨_, _, _, _, rfl, .inl ⟨SqL.of hH, SqL.of hH', ?_⟩⟩
                rw [← hK]
                exact h _ H1 S1 gr I1 (yields_zip hs hH r1 hs' hH' r2) (by rw [zipD_len, ← r1.length]; omega)
      · cases r with
        | cons r1 r =>
          cases r with
          | cons r2 r =>
            cases r
            obtain ⟨a, ws, rfl, h1, h2, h3⟩ := (Rep.b r1).tup hK
            obtain ⟨b, ws', rfl, h1', h2', h3'⟩ := (Rep.b r2).tup hK
            refine ⟨_, _, _, _, rfl, .inr ⟨h1, h1', ?_⟩⟩
            rw [← hK]
            exact h _ H1 S1 gr I1 (yields_zipT r1 r2) (by rw [zipD_len, ← h3.length]; omega)
      · exact h.elim
def mEnum (m : ME) : MI := bindI m fun d => match d with
  | .lst xs => some (enumD xs)
  | _ => none
theorem di_enum {p tpos : Pos} {elts : List Expr} {kk : Nat} (hK : G.K = X.K) (hg : Gl X "enumerate") (hm : X.mg "enumerate" = none) (ha : DE X G W e m) (hs : starEach [e] X.env = [(false, eval e X.env)] := by rfl)
    (hs' : starEach (e :: []) X.env = (false, eval e X.env) :: starEach [] X.env := by rfl) : DI X G W (.Tuple elts kk tpos) (.Call (.Name "enumerate" p) [e] [] pos) (mEnum m) :=
  piImp (pi_enum hg hm (pa_cons ha pa_nil hs') hs) fun σ H R ⟨g, env, S, P, I, h⟩ => by
    refine ⟨g, env, S, P, I, ?_⟩
    unfold mEnum bindI at h
    cases q : m env with
    | bad => simp only [q] at h; exact h.elim
    | exc c fs e1 => simp only [q] at h; exact h
    | ok d o e1 =>
      simp only [q] at h
      intro v H1 S1 gr hv
      obtain ⟨S2, g2, I2, r2⟩ := hv.frz
      cases d with
      | lst xs =>
        cases r2 with
        | lst hs hH hl r =>
          rename_i a vs
          refine ⟨_, _, rfl, SqL.of hH, ?_⟩
          rw [← hK]
          refine h _ H1 S2 (gr.trans g2) I2 (fun i S3 H3 gr3 hS3 => ?_) (by simp only [enumD, List.length_map, List.length_zipIdx]; rw [← r.length]; exact hl)
          have h3 : H3 a = some (.lst vs) := ((gr3 a hs).2).trans hH
          have r3 := r.mono gr3
          refine ⟨fun hi => ?_, fun hi => ⟨vs, SqL.of h3, by rw [r3.length]; simpa [enumD] using hi⟩⟩
          have i1 : i < xs.length := by simpa [enumD] using hi
          obtain ⟨w, q1, q2⟩ := r3.get (i := i) (d := xs[i]) (by simp [i1])
          refine ⟨⟨vs, w, SqL.of h3, q1⟩, fun x H4 ⟨T, x1, e1, e2, e3, k1⟩ => ?_⟩
          have k1 := k1 vs (SqL.of h3)
          rw [q1] at k1; injection k1 with k1; subst k1
          subst e1; subst e3
          exact ⟨.tup [.int i, xs[i]], by simp [enumD, i1], New.tup hS3 e2 (.cons .int (.cons q2 .nil)) (by show 2 ≤ sizeLine; decide)⟩
      | _ => exact h.elim

/-! ### for -/
def forE (t : Tgt) (body : MS) : List D → MS
  | [], env => .nx env
  | d :: r, env => match setTg t d env with
    | none => .bad
    | some e => match body e with
      | .nx e' => forE t body r e'
      | .ct e' => forE t body r e'
      | .bk e' => .nx e'
      | .rt d o e' => .rt d o e'
      | .exc c fs e' => .exc c fs e'
      | .bad => .bad
def mFor (t : Tgt) (mi : MI) (body : MS) : MS := fun env => match mi env with
  | .ok ds e => forE t body ds e
  | .exc c fs e => .exc c fs e
  | .bad => .bad
theorem ds_for {tg iter : Expr} {body : List Stmt} {t : Tgt} {mi : MI} {mb : MS} (hp : PassesOwn (model X.prog X.w) X.A X.env X.xe) (hc : X.calm = true) (hi : DI X G W tg iter mi) (hg : DG X G tg t) (hb : DSs X G W body mb)
    (hs : ∀ x, foldedSetIterable iter X.env x = pure x := by intro _; rfl) : DS X G W (.For tg iter body [] pos) (mFor t mi mb) :=
  psImp (ps_for hp hc hi hg hb hs) fun Z σ H ⟨g, env, S, I, h⟩ => by
    refine ⟨g, env, S, [], I, ?_⟩
    unfold mFor at h
    cases q : mi env with
    | bad => simp only [q] at h; exact h.elim
    | exc c fs e => simp only [q] at h; exact fun cls dd H' S' gr I' r => h cls dd σ H' S' gr I' r
    | ok ds e =>
      simp only [q] at h
      intro J H1 S1 gr I1 hy _
      refine ⟨fun i m σ' H' => m = ds.length - i ∧ i ≤ ds.length ∧ ∃ env' S', Grow S1 H1 S' H' ∧ SI G g σ' H' env' S' [] ∧ PostS G W g H' S' Z (forE t mb (ds.drop i) env'), ⟨ds.length, by simp, Nat.zero_le _, e, S1, Grow.rfl', I1, h.mono gr⟩, ?_⟩
      rintro i m σ' H' ⟨rfl, hi, env', S', gr', I', h'⟩
      obtain ⟨hgo, hst⟩ := hy i S' H' gr' I'.shH
      by_cases hlt : i < ds.length
      · obtain ⟨go, yl⟩ := hgo hlt
        refine .inr ⟨go, fun σ2 H2 => i + 1 ≤ ds.length ∧ ∃ env2 S2, Grow S1 H1 S2 H2 ∧ SI G g σ2 H2 env2 S2 [] ∧ PostS G W g H2 S2 Z (forE t mb (ds.drop (i + 1)) env2), fun σ2 H2 ⟨l, k⟩ => ⟨ds.length - (i + 1), by omega, rfl, l, k⟩, fun x H3 hx => ?_⟩
        obtain ⟨d, hd, n⟩ := yl x H3 hx
        have ed : ds.drop i = d :: ds.drop (i + 1) := by
          rw [List.drop_eq_getElem_cons hlt]
          have : ds[i] = d := by rw [List.getElem?_eq_getElem hlt] at hd; injection hd
          rw [this]
        rw [ed] at h'
        simp only [forE] at h'
        obtain ⟨S3, g3, hv⟩ := n.val I'
        obtain ⟨I3, r3⟩ := hv
        have h3 := PostS.mono g3 h'
        cases q2 : setTg t d env' with
        | none => simp only [q2] at h3; exact h3.elim
        | some e2 =>
          simp only [q2] at h3
          refine ⟨g, env', S3, [], d, e2, I3, r3, q2, fun σ4 _ I4 => ⟨g, e2, S3, I4, ?_⟩⟩
          cases q3 : mb e2 with
          | nx e3 => simp only [q3] at h3; exact fun σ5 H5 S5 g5 I5 => ⟨hlt, e3, S5, gr'.trans (g3.trans g5), I5, h3.mono g5⟩
          | ct e3 => simp only [q3] at h3; exact fun σ5 H5 S5 g5 I5 => ⟨hlt, e3, S5, gr'.trans (g3.trans g5), I5, h3.mono g5⟩
          | bk e3 => simp only [q3] at h3; exact fun σ5 H5 S5 g5 I5 => h3 σ5 H5 S5 g5 I5
          | rt d o e3 => simp only [q3] at h3; exact h3
          | exc c fs e3 => simp only [q3] at h3; exact h3
          | bad => simp only [q3] at h3; exact h3
      · have e0 : ds.drop i = [] := List.drop_eq_nil_of_le (by omega)
        rw [e0] at h'
        exact .inl ⟨hst (by omega), h' σ' H' S' Grow.rfl' I'⟩
/-! ### while: n turns at most -/
def whE (t : MT) (body : MS) : Nat → MS
  | 0, _ => .bad
  | n + 1, env => match t env with
    | .ok true e => match body e with
      | .nx e' => whE t body n e'
      | .ct e' => whE t body n e'
      | .bk e' => .nx e'
      | .rt d o e' => .rt d o e'
      | .exc c fs e' => .exc c fs e'
      | .bad => .bad
    | .ok false e => .nx e
    | .exc c fs e => .exc c fs e
    | .bad => .bad
theorem ds_while {c : Expr} {body : List Stmt} {mc : MT} {mb : MS} (n : Nat) (hp : PassesOwn (model X.prog X.w) X.A X.env X.xe) (hc : DT X G W c mc) (hb : DSs X G W body mb) : DS X G W (.While c body [] pos) (whE mc mb n) :=
  psImp (ps_while hp hc hb) fun Z σ H ⟨g, env, S, I, h⟩ => by
    refine ⟨fun m σ' H' => ∃ env' S', SI G g σ' H' env' S' [] ∧ PostS G W g H' S' Z (whE mc mb m env'), ⟨n, env, S, I, h⟩, ?_⟩
    rintro m σ' H' ⟨env', S', I', h'⟩
    cases m with
    | zero => exact h'.elim
    | succ m =>
      simp only [whE] at h'
      refine ⟨g, env', S', [], I', ?_⟩
      cases q : mc env' with
      | bad => simp only [q] at h'; exact h'.elim
      | exc c fs e => simp only [q] at h'; exact fun cls dd H' S' gr I' r => h' cls dd σ' H' S' gr I' r
      | ok b e =>
        intro H2 S2 g2 I2
        cases b with
        | false => simp only [q] at h'; exact iteF (h' σ' H2 S2 g2 I2)
        | true =>
          simp only [q] at h'
          have h2 := PostS.mono g2 h'
          refine iteT ⟨fun σ3 H3 => ∃ env3 S3, SI G g σ3 H3 env3 S3 [] ∧ PostS G W g H3 S3 Z (whE mc mb m env3), fun σ3 H3 k => ⟨m, Nat.lt_succ_self m, k⟩, ⟨g, e, S2, I2, ?_⟩⟩
          cases q3 : mb e with
          | nx e3 => simp only [q3] at h2; exact fun σ5 H5 S5 g5 I5 => ⟨e3, S5, I5, h2.mono g5⟩
          | ct e3 => simp only [q3] at h2; exact fun σ5 H5 S5 g5 I5 => ⟨e3, S5, I5, h2.mono g5⟩
          | bk e3 => simp only [q3] at h2; exact fun σ5 H5 S5 g5 I5 => h2 σ5 H5 S5 g5 I5
          | rt d o e3 => simp only [q3] at h2; exact h2
          | exc c fs e3 => simp only [q3] at h2; exact h2
          | bad => simp only [q3] at h2; exact h2
end
end DL

set_option Elab.async false
set_option linter.all false
set_option maxRecDepth 100000
set_option maxHeartbeats 1000000
/-! DL9: list comprehensions. -/
namespace DL
open PySem L2
abbrev W0 : WX := fun _ _ _ _ => False
def lcE (t : Tgt) (vs : List Nat) (tt : MT) (me : ME) : List D → List D → EV → RE
  | [], acc, env => .ok (.lst acc) true (wipeE env vs)
  | d :: r, acc, env => match setTg t d (wipeE env vs) with
    | none => .bad
    | some e => match tt e with
      | .ok true e1 => match me e1 with
        | .ok d' _ e2 => lcE t vs tt me r (acc ++ [d']) e2
        | _ => .bad
      | .ok false e1 => lcE t vs tt me r acc e1
      | _ => .bad
def mLc (t : Tgt) (vs : List Nat) (mi : MI) (tt : MT) (me : ME) : ME := fun env => match decide (0 ∉ vs) with
  | true => match mi env with
    | .ok ds e => lcE t vs tt me ds [] e
    | .exc c fs e => .exc c fs e
    | .bad => .bad
  | false => .bad
def mYes : MT := fun e => .ok true e
section
variable {X : Cx} {G : Ctx} {W : WX} {g : Gh} {σ : St} {H H1 H' : Hp} {env env1 : EV} {S S1 : Sset} {P : List (Addr × D)} {Q : VK} {v : V} {d d' : D} {o : Bool} {e : Expr} {m : ME} {pos : Pos} {a : Addr}
theorem SI.writeP {u : HO} (I : SI G g σ H env S ((a, d) :: P)) (hat : At G (L2.upd H a u) S a d') : SI G g σ (L2.upd H a u) env S ((a, d') :: P) := by
  have h2 := I.pend (a, d) List.mem_cons_self
  have nd : a ∉ P.map (·.1) := (List.nodup_cons.mp (by have := I.pun; rwa [List.map_cons] at this)).1
  have gr : Grow S H S (L2.upd H a u) := fun b hb => ⟨hb, upd_ne (show b ≠ a from fun e => h2.1.1 (e ▸ hb))⟩
  have ow : ∀ {b : Addr} {e : D}, b ≠ a → Own G H S b e → Own G (L2.upd H a u) S b e := fun {b e} hb q => ⟨q.1, q.2.mono gr (upd_ne hb)⟩
  have base : SI G g σ (L2.upd H a u) env S P := by
    refine ⟨I.len, fun i e q => ?_, fun i e t ht q => ?_, I.uniq, I.pin, I.pin0, fun p hp => ⟨ow (fun z => nd (z ▸ List.mem_map_of_mem hp)) (I.pop.pend p hp).1, (I.pop.pend p hp).2⟩, I.pop.pun, I.pop.pdis, fun b w q1 q2 => ?_, I.sh0, I.sh1, fun b hb => ?_, tabs_upd I.tab h2.1.2.nt h2.1.2.ne_ext, fun b hb ps z => ?_⟩
    · obtain ⟨v, q1, q2⟩ := I.shr i e q
      exact ⟨v, q1, q2.mono gr⟩
    · obtain ⟨b, q1, q2, q3⟩ := I.own i e t ht q
      exact ⟨b, q1, ow (fun z => I.pdis (a, d) List.mem_cons_self i e t ht q (z ▸ q1)) q2, q3⟩
    · have nb : b ≠ a := fun z => by
        subst z
        rcases h2.2 with h3 | h3
        · rw [h3] at q1; cases q1
        · exact q2 h3
      rcases I.fr b w q1 q2 with k | ⟨k1, ps, k⟩
      · exact .inl (by rw [upd_ne nb]; exact k)
      · exact .inr ⟨k1, ps, by rw [upd_ne nb]; exact k⟩
    · obtain ⟨w, hw⟩ := I.shH b hb
      exact ⟨w, by rw [upd_ne (show b ≠ a from fun e => h2.1.1 (e ▸ hb))]; exact hw⟩
    · rw [upd_ne (show b ≠ a from fun e => h2.1.1 (e ▸ hb))] at z
      exact I.nt b hb ps z
  exact base.push ⟨h2.1.1, hat⟩ h2.2 (fun p hp q => nd (q ▸ List.mem_map_of_mem hp)) (I.pdis (a, d) List.mem_cons_self)
theorem keeps_wipe {t : Tgt} {vs : List Nat} {σ2 : St} (hs : ∀ i ∈ slots t, i ∈ vs) (k : Keeps (slots t) (wipe σ vs) σ2) : wipe σ2 vs = wipe σ vs := by
  have hl : σ2.length = σ.length := by rw [k.1, wipe_length]
  refine List.ext_getElem? fun i => ?_
  by_cases hi : i ∈ vs
  · have z : ∀ (τ : St), τ.length = σ.length → i < σ.length → (wipe τ vs)[i]? = some none := by
      intro τ hτ hlt
      have : ∀ ws : List Nat, i ∈ ws → (wipe τ ws)[i]? = some none := by
        intro ws
        induction ws with
        | nil => intro h; cases h
        | cons w ws ih =>
          intro h
          unfold wipe
          by_cases e : w = i
          · subst e; rw [List.getElem?_set_self (by rw [wipe_length, hτ]; exact hlt)]
          · rw [List.getElem?_set_ne e]
            exact ih ((List.mem_cons.mp h).resolve_left fun q => e q.symm)
      exact this vs hi
    by_cases hlt : i < σ.length
    · rw [z σ2 hl hlt, z σ rfl hlt]
    · rw [List.getElem?_eq_none (by rw [wipe_length, hl]; omega), List.getElem?_eq_none (by rw [wipe_length]; omega)]
  · rw [wipe_out hi, k.2 i fun z => hi (hs i z), wipe_out hi]
theorem tLc_ok {t : Tgt} {vs : List Nat} {mi : MI} {tt : MT} {me : ME} (hs : ∀ i ∈ slots t, i ∈ vs) (h : trE G W (mLc t vs mi tt me) σ H Q) : tLc (trI G W mi) (trG G t) (trT G W0 tt) (trE G W0 me) vs σ H Q := by
  obtain ⟨g, env, S, P, I, h⟩ := h
  refine ⟨g, env, S, P, I, ?_⟩
  unfold mLc at h
  cases q0 : decide (0 ∉ vs) with
  | false => simp only [q0] at h; exact h.elim
  | true =>
    have h0 : 0 ∉ vs := of_decide_eq_true q0
    simp only [q0] at h
    cases q : mi env with
    | bad => simp only [q] at h; exact h.elim
    | exc c fs e => simp only [q] at h; exact h
    | ok ds e =>
      simp only [q] at h
      intro J H1 S1 gr I1 hy hz a ha
      have Ib : SI G g (wipe σ vs) H1 (wipeE e vs) S1 P := I1.rew (wipe_length σ vs) h0 fun i hi => wipe_out hi
      have Ia := Ib.extOwn (N := Nul) (H' := L2.upd H1 a (.lst [])) (a := a) (d := .lst []) (Ext.upd ha) (fun _ h => h.elim) ha id ⟨[], upd_same, by show 0 ≤ sizeLine; decide, .nil⟩
      rw [or1_nul] at Ia
      have g1 : Grow S1 H1 S1 (L2.upd H1 a (.lst [])) := grow_upd I1.shH ha
      have wipe2 : ∀ (E : EV), wipeE (wipeE E vs) vs = wipeE E vs := fun E => by
        refine List.ext_getElem? fun i => ?_
        by_cases hi : i ∈ vs
        · have z : ∀ (τ : EV) (ws : List Nat), i ∈ ws → (wipeE τ ws)[i]? = none ∨ (wipeE τ ws)[i]? = some none := by
            intro τ ws h
            cases hq : (wipeE τ ws)[i]? with
            | none => exact .inl rfl
            | some r =>
              cases r with
              | none => exact .inr rfl
              | some x => exact absurd h (wipeE_some hq).2
          have l1 : (wipeE (wipeE E vs) vs).length = (wipeE E vs).length := wipeE_length _ _
          rcases z (wipeE E vs) vs hi with z1 | z1 <;> rcases z E vs hi with z2 | z2 <;> rw [z1, z2]
          · have := List.getElem?_eq_none_iff.mp z1
            have : (wipeE E vs)[i]? = none := List.getElem?_eq_none (by omega)
            rw [this] at z2; cases z2
          · have := List.getElem?_eq_none_iff.mp z2
            have : (wipeE (wipeE E vs) vs)[i]? = none := List.getElem?_eq_none (by omega)
            rw [this] at z1; cases z1
        · rw [wipeE_out hi]
      have hw : ∀ (acc : List D), lcE t vs tt me ds acc (wipeE e vs) = lcE t vs tt me ds acc e := fun acc => by
        cases ds with
        | nil => simp only [lcE]; rw [wipe2]
        | cons d r => simp only [lcE]; rw [wipe2]
      refine ⟨fun i m H' => m = ds.length - i ∧ i ≤ ds.length ∧ ∃ env' S' acc, Grow S1 H1 S' H' ∧ SI G g (wipe σ vs) H' env' S' ((a, .lst acc) :: P) ∧ acc.length ≤ i ∧ PostE G W g σ H' S' P Q (lcE t vs tt me (ds.drop i) acc env'), ⟨ds.length, by simp, Nat.zero_le _, wipeE e vs, S1, [], g1, Ia, Nat.le_refl _, by rw [List.drop_zero, hw]; exact h.mono (gr.trans g1)⟩, ?_⟩
      rintro i m H' ⟨rfl, hi, env', S', acc, gr', I', hac, h'⟩
      obtain ⟨hgo, hst⟩ := hy i S' H' gr' I'.shH
      by_cases hlt : i < ds.length
      · obtain ⟨go, yl⟩ := hgo hlt
        refine .inr ⟨go, fun H2 => i + 1 ≤ ds.length ∧ ∃ env2 S2 acc2, Grow S1 H1 S2 H2 ∧ SI G g (wipe σ vs) H2 env2 S2 ((a, .lst acc2) :: P) ∧ acc2.length ≤ i + 1 ∧ PostE G W g σ H2 S2 P Q (lcE t vs tt me (ds.drop (i + 1)) acc2 env2), fun H2 ⟨l, k⟩ => ⟨ds.length - (i + 1), by omega, rfl, l, k⟩, fun x H3 hx => ?_⟩
        obtain ⟨d, hd, n⟩ := yl x H3 hx
        have ed : ds.drop i = d :: ds.drop (i + 1) := by
          rw [List.drop_eq_getElem_cons hlt]
          have : ds[i] = d := by rw [List.getElem?_eq_getElem hlt] at hd; injection hd
          rw [this]
        rw [ed] at h'
        simp only [lcE] at h'
        obtain ⟨S3, g3, hv⟩ := n.val I'
        obtain ⟨I3, r3⟩ := hv
        have h3 := PostE.mono g3 h'
        have I3' : SI G g (wipe σ vs) H3 (wipeE env' vs) S3 ((a, .lst acc) :: P) := I3.rew rfl h0 fun _ _ => rfl
        cases q2 : setTg t d (wipeE env' vs) with
        | none => simp only [q2] at h3; exact h3.elim
        | some e2 =>
          simp only [q2] at h3
          refine ⟨g, wipeE env' vs, S3, (a, .lst acc) :: P, d, e2, I3', r3, q2, fun σ4 k4 I4 => ⟨keeps_wipe hs k4, g, e2, S3, (a, .lst acc) :: P, I4, ?_⟩⟩
          have back : ∀ {H5 : Hp} {E : EV} {S5 : Sset} {P5 : List (Addr × D)}, SI G g σ4 H5 E S5 P5 → SI G g (wipe σ vs) H5 (wipeE E vs) S5 P5 := fun I5 => I5.rew (by rw [k4.1]) h0 fun i hi => by
            rw [k4.2 i fun z => hi (hs i z)]
          have lw : ∀ (r : List D) (ac : List D) (E : EV), lcE t vs tt me r ac (wipeE E vs) = lcE t vs tt me r ac E := fun r ac E => by
            cases r with
            | nil => simp only [lcE]; rw [wipe2]
            | cons d r => simp only [lcE]; rw [wipe2]
          cases q3 : tt e2 with
          | bad => simp only [q3] at h3; exact h3.elim
          | exc c fs e3 => simp only [q3] at h3; exact h3.elim
          | ok b e3 =>
            intro H5 S5 g5 I5
            have h5 := PostE.mono g5 h3
            cases b with
            | false =>
              simp only [q3] at h5
              exact iteF ⟨hlt, wipeE e3 vs, S5, acc, gr'.trans (g3.trans g5), back I5, by omega, by rw [lw]; exact h5⟩
            | true =>
              simp only [q3] at h5
              refine iteT ⟨g, e3, S5, (a, .lst acc) :: P, I5, ?_⟩
              cases q4 : me e3 with
              | bad => simp only [q4] at h5; exact h5.elim
              | exc c fs e4 => simp only [q4] at h5; exact h5.elim
              | ok d4 o4 e4 =>
                simp only [q4] at h5
                intro y H6 S6 g6 hv6
                obtain ⟨S7, g7, I7, r7⟩ := hv6.frz
                obtain ⟨ws, w1, w2, w3⟩ := (I7.pend (a, .lst acc) List.mem_cons_self).1.2
                have hlt' : ws.length < sizeLine := by have := w3.length; omega
                have nS : ¬ S7 a := (I7.pend (a, .lst acc) List.mem_cons_self).1.1
                have g8 : Grow S7 H6 S7 (L2.upd H6 a (.lst (ws ++ [y]))) := fun b hb => ⟨hb, upd_ne (show b ≠ a from fun z => nS (z ▸ hb))⟩
                have I8 := I7.writeP (u := .lst (ws ++ [y])) (d' := .lst (acc ++ [d4])) ⟨_, upd_same, by rw [List.length_append]; exact hlt', (w3.append (.cons r7 .nil)).mono g8⟩
                refine ⟨ws, w1, hlt', hlt, wipeE e4 vs, S7, acc ++ [d4], gr'.trans (g3.trans (g5.trans (g6.trans (g7.trans g8)))), back I8, by simp; omega, ?_⟩
                rw [lw]
                exact h5.mono (g6.trans (g7.trans g8))
      · have e0 : ds.drop i = [] := List.drop_eq_nil_of_le (by omega)
        rw [e0] at h'
        simp only [lcE] at h'
        exact .inl ⟨hst (by omega), h' (.ref a) H' S' Grow.rfl' ⟨a, rfl, I'.rew (by rw [wipe_length]) h0 fun i hi => (wipe_out hi).symm⟩⟩
/-- the tests of a comprehension -/
abbrev DTs (X : Cx) (G : Ctx) (W : WX) (ifs : List Expr) (m : MT) := PTs X ifs (trT G W m)
theorem ptsImp {e : List Expr} {t t' : TT} (h : PTs X e t) (i : ∀ σ H Q, t' σ H Q → t σ H Q) : PTs X e t' := ⟨fun pins s σ H Q I q => h.run pins s σ H Q I (i _ _ _ q)⟩
theorem dts_nil : DTs X G W [] mYes := ptsImp pts_nil fun σ H Q ⟨g, env, S, P, I, h⟩ => h H S Grow.rfl' I
theorem dts_one {c : Expr} {mc : MT} (h : DT X G W c mc) : DTs X G W [c] mc := pts_one h
theorem de_lc {elt tg iter : Expr} {ifs : List Expr} {scope : Scope} {own : List (Str × Nat)} {t : Tgt} {mi : MI} {tt : MT} {me : ME} (hc : X.calm = true) (hN : X.N.Nodup) (hi : DI X G W tg iter mi) (ok : blkC X.N X.env.scope scope own = true)
    (hg : ∀ (s : Shared) (H : Hp) (C : Addr) (cl : List (Str × Addr)) (fp : List Addr), DG (X.blk s H scope (compEnvC scope cl C X.env) fp) G tg t) (ht : ∀ (s : Shared) (H : Hp) (C : Addr) (cl : List (Str × Addr)) (fp : List Addr), DTs (X.blk s H scope (compEnvC scope cl C X.env) fp) G W0 ifs tt)
    (he : ∀ (s : Shared) (H : Hp) (C : Addr) (cl : List (Str × Addr)) (fp : List Addr), DE (X.blk s H scope (compEnvC scope cl C X.env) fp) G W0 elt me) (hsl : ∀ i ∈ slots t, i ∈ own.map (·.2) := by decide)
    (hs : ∀ x, foldedSetIterable iter X.env x = pure x := by intro _; rfl) :
    DE X G W (.ListComp elt [⟨tg, iter, ifs, 0⟩] scope pos) (mLc t (own.map (·.2)) mi tt me) :=
  peImp (pe_lc hc hN hi (blkOk_by ok) hg ht he hs) fun σ H Q h => tLc_ok hsl h
theorem ds_setLc {i : Nat} {y : Str} {py : Pos} {elt tg iter : Expr} {ifs : List Expr} {scope : Scope} {own : List (Str × Nat)} {spos : Pos} {t : Tgt} {mi : MI} {tt : MT} {me : ME} (hc : X.calm = true) (hN : X.N.Nodup) (hy : X.N[i]? = some y) (hyl : X.env.scope.names.lookup y = some .local)
    (hsw : swapsWith (.ListComp elt [⟨tg, iter, ifs, 0⟩] scope pos) (some (.Name y py)) spos.line X.env = pure true) (hi : DI X G W tg iter mi) (ok : blkC X.N X.env.scope scope own = true)
    (hg : ∀ (s : Shared) (H : Hp) (C : Addr) (cl : List (Str × Addr)) (fp : List Addr), DG (X.blk s H scope (compEnvC scope cl C X.env) fp) G tg t) (ht : ∀ (s : Shared) (H : Hp) (C : Addr) (cl : List (Str × Addr)) (fp : List Addr), DTs (X.blk s H scope (compEnvC scope cl C X.env) fp) G W0 ifs tt)
    (he : ∀ (s : Shared) (H : Hp) (C : Addr) (cl : List (Str × Addr)) (fp : List Addr), DE (X.blk s H scope (compEnvC scope cl C X.env) fp) G W0 elt me) (hsl : ∀ i ∈ slots t, i ∈ own.map (·.2) := by decide)
    (hs : ∀ x, foldedSetIterable iter X.env x = pure x := by intro _; rfl) :
    DS X G W (.Assign [.Name y py] (.ListComp elt [⟨tg, iter, ifs, 0⟩] scope pos) spos) (mSet i (mLc t (own.map (·.2)) mi tt me)) :=
  psImp (ps_setLc hc hN hy hyl hsw hi (blkOk_by ok) hg ht he hs) fun Z σ H ⟨g, env, S, I, h⟩ => tLc_ok hsl (bindS_ok (R := fun x H1 => Z.nx (σ.set i (some x)) H1) I h fun d o env1 v H1 S1 gr hv h => setE_ok hv h)
end
end DL

set_option Elab.async false
set_option linter.all false
set_option maxRecDepth 100000
set_option maxHeartbeats 1000000
/-! DL10: defs and their calls. -/
namespace DL
open PySem L2
/-- the arguments: all shared; or the first one a root to be changed -/
def ArgsR (G : Ctx) (H : Hp) (S : Sset) (fa : Option Addr) (vs : List V) (ds : List D) : Prop := match fa with
  | none => RepL G H S vs ds
  | some a => ∃ d ds' vs', vs = .ref a :: vs' ∧ ds = d :: ds' ∧ Own G H S a d ∧ RepL G H S vs' ds'
/-- what became of it -/
def FinR (G : Ctx) (H : Hp) (S : Sset) (fa : Option Addr) (f : Option D) : Prop := match fa with
  | none => True
  | some a => ∃ d, f = some d ∧ Own G H S a d
/-- THE PROMISE of a def that reckons c -/
def SpF (G : Ctx) (io : Bool) (n : Nat) (c : FN) : Sp := fun vs H Q E => vs.length = n ∧ ∃ S ds fa, fa.isSome = io ∧ ShOk G H S ∧ ArgsR G H S fa vs ds ∧ match c ds with
  | .ok d o f => ∀ v H' S' P', SI G ⟨H, S, fa, false⟩ [] H' [] S' P' → FinR G H' S' fa f → (match o with | true => ∃ a, v = .ref a ∧ H a = none ∧ Own G H' S' a d | false => Rep G H' S' v d) → Q v H'
  | .exc k fs f => ∀ cls dd H' S' P', SI G ⟨H, S, fa, false⟩ [] H' [] S' P' → FinR G H' S' fa f → ExcRep G H' S' cls dd k fs → E cls dd H'
  | .bad => False
def finE (io : Bool) (env : EV) : Option D := match io, env[0]? with
  | true, some (some (d, Tag.p)) => some d
  | _, _ => none
/-- a def by its body: n slots -/
def mkFn (n : Nat) (io : Bool) (body : MS) : FN := fun ds => match body (startE n io ds) with
  | .nx e => .ok .non false (finE io e)
  | .rt d o e => .ok d o (finE io e)
  | .exc c fs e => .exc c fs (finE io e)
  | _ => .bad
section
variable {X : Cx} {G : Ctx} {W : WX} {g : Gh} {σ : St} {H H1 H' : Hp} {env env1 : EV} {S S1 : Sset} {P : List (Addr × D)} {Q : VK} {v : V} {d d' : D} {o : Bool} {e : Expr} {m : ME} {pos : Pos} {a : Addr}
theorem SI.bare (I : SI G g σ H env S P) : SI G ⟨g.H0, g.S0, g.fa, false⟩ [] H [] S P :=
  ⟨rfl, fun i d h => by simp at h, fun i d t _ h => by simp at h, fun i j d e t u a _ _ h => by simp at h, fun i d h => by simp at h, fun a _ h => (nomatch h), I.pend, I.pun, fun p _ i d t _ h => by simp at h, I.fr, I.sh0, I.sh1, I.shH, I.tab, I.nt⟩
theorem SI.fin (I : SI G g σ H env S P) (hn : g.inF = true) : FinR G H S g.fa (finE g.fa.isSome env) := by
  cases q : g.fa with
  | none => trivial
  | some a =>
    obtain ⟨d, h⟩ := I.pin0 a q hn
    refine ⟨d, by show finE true env = some d; unfold finE; rw [h], ?_⟩
    obtain ⟨b, h1, h2, h3⟩ := I.own 0 d .p (by decide) h
    obtain ⟨_, c, h4, h5⟩ := I.pin 0 d h
    rw [h1] at h4; injection h4 with h4; injection h4 with h4; injection h4 with h4
    rw [q] at h5; injection h5 with h5
    rw [h4, ← h5] at h2
    exact h2
theorem SI.newRoot (I : SI G g σ H env S ((a, d) :: P)) (hn : g.inF = true) : g.H0 a = none := by
  rcases (I.pend (a, d) List.mem_cons_self).2 with h | h
  · exact h
  · obtain ⟨d', h1⟩ := I.pin0 a h hn
    obtain ⟨_, b, h2, h3⟩ := I.pin 0 d' h1
    rw [h] at h3; injection h3 with h3
    subst h3
    exact absurd h2 (I.pdis (a, d) List.mem_cons_self 0 d' .p (by decide) h1)
theorem map_get {α β : Type} {f : α → β} {l : List α} {i : Nat} {y : β} (h : (l.map f)[i]? = some y) : ∃ x, l[i]? = some x ∧ y = f x := by
  rw [List.getElem?_map] at h
  cases q : l[i]? with
  | none => rw [q] at h; cases h
  | some x => rw [q] at h; exact ⟨x, rfl, (Option.some.inj h).symm⟩
theorem start_get {N : List Str} {vs : List V} {i : Nat} {v : V} (h : vs[i]? = some v) : (L2.start N vs)[i]? = some (some v) := by
  have hi : i < vs.length := (List.getElem?_eq_some_iff.mp h).1
  unfold L2.start
  rw [List.getElem?_append_left (by simpa using hi), List.getElem?_map, h]; rfl
theorem rep_app {l : List (Option (D × Tag))} {k i : Nat} {x : D × Tag} (h : (l ++ List.replicate k none)[i]? = some (some x)) : l[i]? = some (some x) := by
  by_cases hi : i < l.length
  · rwa [List.getElem?_append_left hi] at h
  · rw [List.getElem?_append_right (by omega), List.getElem?_replicate] at h
    split at h <;> cases h
theorem SI.start {N : List Str} {vs : List V} {ds : List D} {fa : Option Addr} (hS : ShOk G H S) (ar : ArgsR G H S fa vs ds) (hN : vs.length ≤ N.length) : SI G ⟨H, S, fa, true⟩ (L2.start N vs) H (startE N.length fa.isSome ds) S [] := by
  have hlen : (L2.start N vs).length = N.length := by unfold L2.start; rw [List.length_append, List.length_map, List.length_replicate]; omega
  cases fa with
  | none =>
    have ar : RepL G H S vs ds := ar
    have e0 : startE N.length false ds = (ds.map fun x => some (x, Tag.s)) ++ List.replicate (N.length - ds.length) none := by cases ds <;> rfl
    have get : ∀ {i : Nat} {x : D × Tag}, (startE N.length false ds)[i]? = some (some x) → ds[i]? = some x.1 ∧ x.2 = .s := fun {i x} h => by
      rw [e0] at h
      obtain ⟨y, h1, h2⟩ := map_get (rep_app h)
      injection h2 with h2; subst h2
      exact ⟨h1, rfl⟩
    refine ⟨?_, fun i d h => ?_, fun i d t ht h => absurd (get h).2 ht, fun i j d e t u a ht _ h => absurd (get h).2 ht, fun i d h => (nomatch (get h).2), fun a h => (nomatch h), fun p hp => (nomatch hp), List.nodup_nil, fun p hp => (nomatch hp), fun a o h _ => .inl h, fun a h => h, fun a h => .inl h, hS.1, hS.2.1, hS.2.2⟩
    · rw [hlen]
      show (startE N.length false ds).length = _
      rw [e0, List.length_append, List.length_map, List.length_replicate, ← ar.length]; omega
    · obtain ⟨v, h1, h2⟩ := ar.get (get h).1
      exact ⟨v, start_get h1, h2⟩
  | some a =>
    obtain ⟨d0, ds', vs', rfl, rfl, own, ar⟩ := ar
    have e0 : startE N.length true (d0 :: ds') = (some (d0, Tag.p) :: ds'.map fun x => some (x, Tag.s)) ++ List.replicate (N.length - (d0 :: ds').length) none := rfl
    have get : ∀ {i : Nat} {x : D × Tag}, (startE N.length true (d0 :: ds'))[i]? = some (some x) → (i = 0 ∧ x = (d0, .p)) ∨ ∃ j, i = j + 1 ∧ ds'[j]? = some x.1 ∧ x.2 = .s := fun {i x} h => by
      rw [e0] at h
      have h := rep_app h
      cases i with
      | zero => simp at h; exact .inl ⟨rfl, h.symm⟩
      | succ j =>
        refine .inr ⟨j, rfl, ?_⟩
        have h : (ds'.map fun x => some (x, Tag.s))[j]? = some (some x) := by simpa using h
        obtain ⟨y, h1, h2⟩ := map_get h
        injection h2 with h2; subst h2
        exact ⟨h1, rfl⟩
    have s0 : (L2.start N (.ref a :: vs'))[0]? = some (some (V.ref a)) := start_get rfl
    refine ⟨?_, fun i d h => ?_, fun i d t ht h => ?_, fun i j d e t u b ht hu h h' _ _ => ?_, fun i d h => ?_, fun b h _ => ?_, fun p hp => (nomatch hp), List.nodup_nil, fun p hp => (nomatch hp), fun b o h _ => .inl h, fun b h => h, fun b h => .inl h, hS.1, hS.2.1, hS.2.2⟩
    · rw [hlen]
      show (startE N.length true (d0 :: ds')).length = _
      rw [e0, List.length_append, List.length_cons, List.length_map, List.length_replicate]
      have := ar.length
      simp only [List.length_cons] at hN ⊢
      omega
    · rcases get h with ⟨_, h⟩ | ⟨j, rfl, h1, _⟩
      · cases h
      · obtain ⟨v, h1, h2⟩ := ar.get h1
        exact ⟨v, start_get (by simpa using h1), h2⟩
    · rcases get h with ⟨rfl, h⟩ | ⟨j, rfl, h1, h2⟩
      · cases h; exact ⟨a, s0, own, .inr rfl⟩
      · exact absurd h2 ht
    · rcases get h with ⟨rfl, _⟩ | ⟨_, _, _, z⟩
      · rcases get h' with ⟨rfl, _⟩ | ⟨_, _, _, z⟩
        · rfl
        · exact absurd z hu
      · exact absurd z ht
    · rcases get h with ⟨rfl, h⟩ | ⟨_, _, _, z⟩
      · exact ⟨rfl, a, s0, rfl⟩
      · cases z
    · exact ⟨d0, by show (startE N.length true (d0 :: ds'))[0]? = _; rw [e0]; rfl⟩
end
section
variable {P : Program} {w : World} {K : PySem.W.Frag} {mg : Str → Option Value} {base : Heap} {G : Ctx}
/-- what a body wishes of what it raises -/
abbrev WD (E : XK) : WX := fun cls dd _ H => E cls dd H
theorem sp_start {W : WX} {N : List Str} {n : Nat} {io : Bool} {mb : MS} {vs : List V} {H : Hp} {Q : VK} {E : XK} (h : SpF G io n (mkFn N.length io mb) vs H Q E) (hn : n ≤ N.length) : trS G (WD E) mb { nx := fun _ H' => Q .non H', rt := Q } (L2.start N vs) H := by
  obtain ⟨hl, S, ds, fa, hfa, hS, ar, h⟩ := h
  subst hfa
  have I := SI.start (N := N) hS ar (by rw [hl]; exact hn)
  refine ⟨⟨H, S, fa, true⟩, startE N.length fa.isSome ds, S, I, ?_⟩
  unfold mkFn at h
  cases q : mb (startE N.length fa.isSome ds) with
  | bad => rw [q] at h; exact h.elim
  | bk e => rw [q] at h; exact h.elim
  | ct e => rw [q] at h; exact h.elim
  | nx e =>
    rw [q] at h
    exact fun σ' H' S' gr I' => h .non H' S' [] I'.bare (I'.fin rfl) .non
  | rt d o e =>
    rw [q] at h
    intro v σ' H' S' gr hv
    cases o with
    | false => exact h v H' S' [] hv.1.bare (hv.1.fin rfl) hv.2
    | true =>
      obtain ⟨a, rfl, I'⟩ := hv
      exact h _ H' S' _ I'.bare (I'.fin rfl) ⟨a, rfl, I'.newRoot rfl, (I'.pend (a, d) List.mem_cons_self).1⟩
  | exc c fs e =>
    rw [q] at h
    exact fun cls dd σ' H' S' gr I' r => h cls dd H' S' [] I'.bare (I'.fin rfl) r
/-- THE RULE for a def -/
theorem fn_ok {x qual : Str} {st : Stmt} {f : Addr} {fd : FuncData} {N ps : List Str} {k : Nat} {io : Bool} {mb : MS} (F : Fun K x qual st f fd) (Sc : FnScope N ps (defScope st)) (h0 : N ≠ []) (hio : io = true → ps ≠ [])
    (hb : ∀ (cdv : Value) (A : Around) (outer : List Env) (s : Shared) (H : Hp) (E : XK), Room k (A.deeper (PyProof.Rows.envOfC qual (defScope st) s.heap.objs.size f cdv)) →
      Takes (cxOf (L2.CX P w) P w K mg base N qual (defScope st) f cdv A outer s H E) (WD E) → DSs (cxOf (L2.CX P w) P w K mg base N qual (defScope st) f cdv A outer s H E) G (WD E) (defBody st) mb) :
    FnOk P w K mg base (L2.CX P w) (k + 1) f fd ps (SpF G io ps.length (mkFn N.length io mb)) := by
  refine F.okX Sc (fun vs H Q E h => h.1) fun cdv A outer s H vs Q E hr h => ⟨_, hb cdv A outer s H E hr (takes_of rfl rfl rfl rfl), ?_⟩
  have hpl : ps.length ≤ N.length := by rw [← Sc.pre]; exact List.length_take_le' _ _
  exact sp_start (W := WD E) h hpl
end
end DL

set_option Elab.async false
set_option linter.all false
set_option maxRecDepth 100000
set_option maxHeartbeats 1000000
/-! DL11: calls of defs, of classes, of methods; fields stored. -/
namespace DL
open PySem L2
/-- a def's answer, io: the root in slot i is changed by it -/
def ansE (i : Option Nat) (r : RC) : ME := fun env => match i with
  | none => match r with
    | .ok d o _ => .ok d o env
    | .exc c fs _ => .exc c fs env
    | .bad => .bad
  | some i => match env[i]? with
    | some (some (_, t)) => match r with
      | .ok d o (some f) => .ok d o (env.set i (some (f, t)))
      | .exc c fs (some f) => .exc c fs (env.set i (some (f, t)))
      | _ => .bad
    | _ => .bad
/-- the arguments of a call: shared all; or a root's slot first -/
def mCall (c : FN) (ms : List ME) (dds : List D) : ME := bindL ms fun ds => ansE none (c (ds ++ dds))
def mCallIO (c : FN) (i : Nat) (ms : List ME) (dds : List D) : ME := bindO (.pl i) fun _ => bindL ms fun ds env => match env[i]? with
  | some (some (d, t)) => match t with
    | .s => .bad
    | _ => ansE (some i) (c (d :: (ds ++ dds))) env
  | _ => .bad
section
variable {X : Cx} {G : Ctx} {W : WX} {g : Gh} {σ : St} {H H1 H' : Hp} {env env1 : EV} {S S1 : Sset} {P : List (Addr × D)} {Q : VK} {v : V} {d d' : D} {o : Bool} {e : Expr} {es : List Expr} {m : ME} {ms : List ME} {pos p : Pos} {a : Addr} {c : FN} {n k : Nat} {f : Addr} {fd : FuncData} {ps : List Str} {x : Str} {vs dvs : List V} {ds dds : List D} {dus : List Value}
/-- what the callee's promise asks, shared arguments -/
theorem sp_call (I : SI G g σ H env S P) (r : RepL G H S vs ds) (hn : vs.length = n) (h : PostE G W g σ H S P Q (ansE none (c ds) env)) : SpF G false n c vs H Q (fun cls dd H => W cls dd σ H) := by
  refine ⟨hn, S, ds, none, rfl, I.sho, r, ?_⟩
  unfold ansE at h
  cases q : c ds with
  | bad => rw [q] at h; exact h.elim
  | exc k fs f =>
    rw [q] at h
    intro cls dd H' S' P' J _ er
    obtain ⟨I', gr⟩ := I.call0 J
    exact h cls dd H' S' gr I' er
  | ok d o f =>
    rw [q] at h
    intro v H' S' P' J _ hv
    obtain ⟨I', gr⟩ := I.call0 J
    refine h v H' S' gr ?_
    cases o with
    | false => exact ⟨I', hv⟩
    | true =>
      obtain ⟨a, rfl, h1, h2⟩ := hv
      exact ⟨a, rfl, I.fresh I' h1 h2 fun _ e _ h => ⟨e, h⟩⟩
/-- .. a root first -/
theorem sp_callIO {i : Nat} {t : Tag} (I : SI G g σ H env S P) (ht : t ≠ .s) (he : env[i]? = some (some (d, t))) (hσ : σ[i]? = some (some (.ref a))) (r : RepL G H S vs ds) (hn : (V.ref a :: vs).length = n)
    (h : PostE G W g σ H S P Q (ansE (some i) (c (d :: ds)) env)) : SpF G true n c (.ref a :: vs) H Q (fun cls dd H => W cls dd σ H) := by
  obtain ⟨b, h1, h2, _⟩ := I.own i d t ht he
  rw [hσ] at h1; injection h1 with h1; injection h1 with h1; injection h1 with h1; subst h1
  refine ⟨hn, S, d :: ds, some a, rfl, I.sho, ⟨d, ds, vs, rfl, rfl, h2, r⟩, ?_⟩
  unfold ansE at h
  simp only [he] at h
  have tags : ∀ {f : D} (j : Nat) (e : D) (u : Tag), (env.set i (some (f, t)))[j]? = some (some (e, u)) → ∃ e', env[j]? = some (some (e', u)) := fun {f} j e u q => by
    rcases get_set q with ⟨rfl, z⟩ | ⟨_, z⟩
    · injection z with z; injection z with _ z; subst z; exact ⟨d, he⟩
    · exact ⟨e, z⟩
  cases q : c (d :: ds) with
  | bad => simp only [q] at h; exact h.elim
  | exc k fs f =>
    simp only [q] at h
    cases f with
    | none => exact h.elim
    | some f =>
      intro cls dd H' S' P' J hf er
      obtain ⟨_, hf, ho⟩ := hf
      injection hf with hf; subst hf
      obtain ⟨I', gr⟩ := I.call1 ht he hσ J ho
      exact h cls dd H' S' gr I' er
  | ok d2 o f =>
    simp only [q] at h
    cases f with
    | none => exact h.elim
    | some f =>
      intro v H' S' P' J hf hv
      obtain ⟨_, hf, ho⟩ := hf
      injection hf with hf; subst hf
      obtain ⟨I', gr⟩ := I.call1 ht he hσ J ho
      refine h v H' S' gr ?_
      cases o with
      | false => exact ⟨I', hv⟩
      | true =>
        obtain ⟨b, rfl, k1, k2⟩ := hv
        exact ⟨b, rfl, I.fresh I' k1 k2 tags⟩
theorem PostE.bad {r : RE} (h : PostE G W g σ H S P Q r) (e : r = .bad) : False := by subst e; exact h
/-- f(e, ..) -/
theorem de_call (F : FnOk X.prog X.w X.K X.mg X.base (L2.CX X.prog X.w) k f fd ps (SpF G false n c)) (hr : Room k X.A) (hg : Gl X x) (hm : X.mg x = some (.ref f)) (hk : PySem.W.keepIn X.K (.ref f) = true) (hb : Binds X.K fd ps dus) (hd : Vals dvs dus) (tk : Takes X W)
    (ha : DA X G W (e :: es) ms) (hn : ms.length + dvs.length = n) (hdd : ∀ (H : Hp) (S : Sset), RepL G H S dvs dds) (hdb : (x == ("__debug__" : Str)) = false := by decide) (he : starEach (e :: es) X.env = (false, eval e X.env) :: starEach es X.env := by rfl) (hpl : (backTo pos (starEach es X.env)).any (·.1) = false := by rfl) :
    DE X G W (.Call (.Name x p) (e :: es) [] pos) (mCall c ms dds) :=
  peImp (pe_callSD F hr hg hm hk hb hd (fun σ => passAt tk σ) ha hdb he hpl) fun σ H Q ⟨g, env, S, P, I, h⟩ => bindL_ok I h fun ds env1 vs H1 S1 gr I1 r l h =>
    sp_call I1 (r.append (hdd H1 S1)) (by rw [List.length_append, l]; exact hn) h
theorem bindPl_ok {i : Nat} {k : Opd → ME} {R : VK} (I : SI G g σ H env S P) (h : PostE G W g σ H S P Q (bindO (.pl i) k env))
    (hk : ∀ v, σ[i]? = some (some v) → PostE G W g σ H S P Q (k (.pl i) env) → R v H) : tVar i σ H R := by
  unfold bindO at h
  cases q : env[i]? with
  | none => simp only [q] at h; exact h.elim
  | some r =>
    cases r with
    | none => simp only [q] at h; exact h.elim
    | some dt =>
      simp only [q] at h
      obtain ⟨d, t⟩ := dt
      by_cases ht : t = .s
      · subst ht
        obtain ⟨w, h1, _⟩ := I.shr i d q
        exact ⟨w, h1, hk w h1 h⟩
      · obtain ⟨a, h1, _⟩ := I.own i d t ht q
        exact ⟨_, h1, hk _ h1 h⟩
theorem len_cons_app {b : Addr} {j : Nat} (l : vs.length = j) (h : 1 + j + dvs.length = n) : ((V.ref b :: vs) ++ dvs).length = n := by rw [List.length_append, List.length_cons, l]; omega
theorem paConsVar {i : Nat} {e : Expr} (he : PE X e (tVar i)) (hr : DA X G W es ms) (hs : starEach (e :: es) X.env = (false, eval e X.env) :: starEach es X.env := by rfl) : PA X (e :: es) (tCons (tVar i) (trL G W ms)) := pa_cons he hr hs
/-- f(x, e, ..), x a root that f changes -/
theorem de_callIO {i : Nat} (F : FnOk X.prog X.w X.K X.mg X.base (L2.CX X.prog X.w) k f fd ps (SpF G true n c)) (hr : Room k X.A) (hg : Gl X x) (hm : X.mg x = some (.ref f)) (hk : PySem.W.keepIn X.K (.ref f) = true) (hb : Binds X.K fd ps dus) (hd : Vals dvs dus) (tk : Takes X W)
    (hv : PE X e (tVar i)) (ha : DA X G W es ms) (hn : 1 + ms.length + dvs.length = n) (hdd : ∀ (H : Hp) (S : Sset), RepL G H S dvs dds) (hdb : (x == ("__debug__" : Str)) = false := by decide) (he : starEach (e :: es) X.env = (false, eval e X.env) :: starEach es X.env := by rfl) (hpl : (backTo pos (starEach es X.env)).any (·.1) = false := by rfl) :
    DE X G W (.Call (.Name x p) (e :: es) [] pos) (mCallIO c i ms dds) :=
  peImp (pe_callSD F hr hg hm hk hb hd (fun σ => passAt tk σ) (paConsVar hv ha he) hdb he hpl) fun σ H Q ⟨g, env, S, P, I, h⟩ => by
    show tVar i σ H (fun x H1 => trL G W ms σ H1 fun xs H2 => SpF G true n c ((x :: xs) ++ dvs) H2 Q (fun cls dd H => W cls dd σ H))
    refine bindPl_ok I h fun vr hvr h => ?_
    refine bindL_ok I h fun ds env1 vs H1 S1 gr I1 r l h => ?_
    cases q : env1[i]? with
    | none => simp only [q] at h; exact h.elim
    | some r0 =>
      cases r0 with
      | none => simp only [q] at h; exact h.elim
      | some dt =>
        obtain ⟨d, t⟩ := dt
        simp only [q] at h
        have ht : t ≠ .s := fun z => by subst z; exact h
        obtain ⟨b, h1, _, _⟩ := I1.own i d t ht q
        rw [hvr] at h1; injection h1 with h1; injection h1 with h1; subst h1
        have h : PostE G W g σ H1 S1 P Q (ansE (some i) (c (d :: (ds ++ dds))) env1) := by cases t <;> first | exact absurd rfl ht | exact h
        exact sp_callIO I1 ht q hvr (r.append (hdd H1 S1)) (len_cons_app (b := b) l hn) h
/-- behind a callee that changed a pending root alone -/
theorem SI.callP {fl : Bool} {σ' : St} {env' : EV} {S' : Sset} {R : List (Addr × D)} (I : SI G g σ H env S ((a, d) :: P)) (J : SI G ⟨H, S, some a, fl⟩ σ' H' env' S' R) (hn : Own G H' S' a d') : SI G g σ H' env S' ((a, d') :: P) ∧ Grow S H S' H' := by
  have ha := I.pend (a, d) List.mem_cons_self
  have nd : a ∉ P.map (·.1) := (List.nodup_cons.mp (by have := I.pun; rwa [List.map_cons] at this)).1
  have e : ∀ b o, b ≠ a → H b = some o → Keep H' b o := fun b o hb h => J.fr b o h (by simpa using Ne.symm hb)
  have gr : Grow S H S' H' := fun b hb => ⟨J.sh0 b hb, by
    obtain ⟨o, ho⟩ := I.shH b hb
    exact ((e b o (fun q => ha.1.1 (q ▸ hb)) ho).nt fun ps z => I.nt b hb ps (ho.trans z)).trans ho.symm⟩
  have nS : ∀ b, b ≠ a → ¬ S b → (∃ o, H b = some o) → (∀ φ, H b ≠ some (.ext φ)) → ¬ S' b := fun b hba hb ⟨o, ho⟩ hx h => by
    rcases J.sh1 b h with h | h | h | ⟨φ, h⟩
    · exact hb h
    · have h : H b = none := h
      rw [h] at ho; cases ho
    · have h : some a = some b := h
      injection h with h; exact hba h.symm
    · exact hx φ h
  have ow : ∀ {b : Addr} {e' : D}, b ≠ a → Own G H S b e' → Own G H' S' b e' := fun {b e'} hb ⟨h1, h2⟩ => by
    obtain ⟨o, ho⟩ := h2.some
    exact ⟨nS b hb h1 ⟨o, ho⟩ h2.ne_ext, h2.mono gr (((e b o hb ho).nt fun ps z => h2.nt ps (ho.trans z)).trans ho.symm)⟩
  have base : SI G g σ H' env S' P := by
    refine ⟨I.len, fun j x q => ?_, fun j x u hu q => ?_, I.uniq, I.pin, I.pin0, fun p hp => ⟨ow (fun z => nd (z ▸ List.mem_map_of_mem hp)) (I.pop.pend p hp).1, (I.pop.pend p hp).2⟩, I.pop.pun, I.pop.pdis, fun b u q1 q2 => ?_, fun b h => J.sh0 b (I.sh0 b h), fun b h => ?_, J.shH, J.tab, J.nt⟩
    · obtain ⟨v, q1, q2⟩ := I.shr j x q
      exact ⟨v, q1, q2.mono gr⟩
    · obtain ⟨b, q1, q2, q3⟩ := I.own j x u hu q
      exact ⟨b, q1, ow (fun z => I.pdis (a, d) List.mem_cons_self j x u hu q (z ▸ q1)) q2, q3⟩
    · have nb : b ≠ a := fun z => by
        subst z
        rcases ha.2 with h3 | h3
        · rw [h3] at q1; cases q1
        · exact q2 h3
      rcases I.fr b u q1 q2 with k | ⟨k1, ps, k⟩
      · exact e b u nb k
      · rcases e b _ nb k with q | ⟨_, q⟩
        · exact .inr ⟨k1, ps, q⟩
        · exact .inr ⟨k1, q⟩
    · rcases J.sh1 b h with h | h | h | ⟨φ, h⟩
      · exact I.sh1 b h
      · exact sh1_ok (I.okNew h)
      · have h : some a = some b := h
        injection h with h; subst h; exact sh1_ok ha.2
      · exact I.sh1_ext h
  exact ⟨base.push hn ha.2 (fun p hp q => nd (q ▸ List.mem_map_of_mem hp)) (I.pdis (a, d) List.mem_cons_self), gr⟩
/-- a new instance's state -/
theorem SI.made {cls : Nat} {y dx : Addr} (I : SI G g σ H env S P) (hx : H y = none) (hdx : H dx = none) (ne : dx ≠ y) :
    SI G g σ (L2.upd (L2.upd H dx (.own y)) y (.ins (G.C cls) dx [])) env S ((y, .obj cls []) :: P) ∧ Grow S H S (L2.upd (L2.upd H dx (.own y)) y (.ins (G.C cls) dx [])) := by
  have h1 : (L2.upd H dx (.own y)) y = none := by rw [upd_ne (Ne.symm ne)]; exact hx
  have ex : Ext H (L2.upd (L2.upd H dx (.own y)) y (.ins (G.C cls) dx [])) := (Ext.upd hdx).trans (Ext.upd h1)
  have I2 := I.extOwn (N := Nul) (H' := L2.upd (L2.upd H dx (.own y)) y (.ins (G.C cls) dx [])) (a := y) (d := .obj cls []) ex (fun _ h => h.elim) hx id ⟨dx, [], by rw [upd_same, List.zip_nil_right], Nat.zero_le _, .nil⟩
  rw [or1_nul] at I2
  exact ⟨I2, I.grow ex S fun _ h => h⟩
def makeE (r : RC) : ME := fun env => match r with
  | .ok d _ (some f) => match d with
    | .non => .ok f true env
    | _ => .bad
  | .exc c fs _ => .exc c fs env
  | _ => .bad
/-- C(e, ..): c is its __init__ -/
def mMake (c : FN) (cls : Nat) (ms : List ME) (dds : List D) : ME := bindL ms fun ds => makeE (c (.obj cls [] :: (ds ++ dds)))
theorem sp_make {cls : Nat} (I : SI G g σ H env S P) (r : RepL G H S vs ds) (hn : 1 + vs.length = n) (h : PostE G W g σ H S P Q (makeE (c (.obj cls [] :: ds)) env)) :
    ∀ y dx, H y = none → H dx = none → dx ≠ y → SpF G true n c (.ref y :: vs) (L2.upd (L2.upd H dx (.own y)) y (.ins (G.C cls) dx [])) (fun v H2 => v = .non ∧ Q (.ref y) H2) (fun cls dd H => W cls dd σ H) := by
  intro y dx hy hdx ne
  obtain ⟨I2, g2⟩ := I.made (cls := cls) hy hdx ne
  refine ⟨by rw [List.length_cons]; omega, S, .obj cls [] :: ds, some y, rfl, I2.sho, ⟨_, ds, vs, rfl, rfl, (I2.pend (y, .obj cls []) List.mem_cons_self).1, r.mono g2⟩, ?_⟩
  unfold makeE at h
  cases q : c (.obj cls [] :: ds) with
  | bad => rw [q] at h; exact h.elim
  | exc k fs f =>
    rw [q] at h
    intro cls' dd H' S' P' J hf er
    obtain ⟨f', _, ho⟩ := hf
    obtain ⟨I', gr⟩ := I2.callP J ho
    exact h cls' dd H' S' (g2.trans gr) I'.pop er
  | ok d o f =>
    rw [q] at h
    cases f with
    | none => exact h.elim
    | some f =>
      cases d with
      | non =>
        intro v H' S' P' J hf hv
        obtain ⟨f', hf, ho⟩ := hf
        injection hf with hf; subst hf
        obtain ⟨I', gr⟩ := I2.callP J ho
        refine ⟨?_, h (.ref y) H' S' (g2.trans gr) ⟨y, rfl, I'⟩⟩
        cases o with
        | false => cases hv; rfl
        | true => obtain ⟨_, _, _, hv⟩ := hv; exact hv.2.elim
      | _ => exact h.elim
/-- the machine's side: a class called, what is raised wished for at the caller's slots -/
theorem runMake {C : Addr} {sp : Sp} {E : XK} {CXx : CXT} {pins : List (Addr × Obj)} {s : Shared} {us : List Value} {kws : List (Str × Value)} {bs : List Value} {ws : List V} (M : Mk X.K C f) (F : FnOk X.prog X.w X.K X.mg X.base CXx k f fd ps sp) (hr : Room (k + 1) X.A)
    (hb : ∀ (s : Shared) (u : Value), X.K.In s.heap → BindsTo s fd ⟨u :: us, kws⟩ (ps.zip (u :: bs))) (r : Vals ws bs) (hx : PassesAt CXx X σ E) (I : Inv X pins σ H s)
    (h : ∀ y dx, H y = none → H dx = none → dx ≠ y → sp (.ref y :: ws) (L2.upd (L2.upd H dx (.own y)) y (.ins C dx [])) (fun v H2 => v = .non ∧ Q (.ref y) H2) E) :
    wpAny (model X.prog X.w) X.A (call (.ref C) us kws) (EP X pins σ Q) X.xe s := by
  have I2 := Inv.made (C := C) I
  have q := h _ _ (I.hok.fresh (Nat.le_succ s.heap.objs.size)) (I.hok.fresh (Nat.le_refl s.heap.objs.size)) (Nat.ne_of_lt (Nat.lt_succ_self _))
  have rr : Vals (V.ref (s.heap.objs.size + 1) :: ws) (Value.ref (s.heap.objs.size + 1) :: bs) := .cons rfl r
  refine wpAny_call (make_map (f := f) I.kIn M.makes M.init (beq_iff_eq.mp M.fn) (codeAny_mono (F.run _ X.stack _ _ _ _ _ _ E (hr.make C us kws) (I2.env0.make C us kws) (hb _ _ I2.kIn) rr q) fun res s' hq => ?_))
  cases res with
  | error e => exact hx pins _ _ e s' I2 hq
  | ok fl =>
    cases fl with
    | ret u =>
      obtain ⟨v, H', I3, rv, ev, q3⟩ := I2.after hq
      subst ev
      exact ⟨rv, V.ref (s.heap.objs.size + 1), H', I3, rfl, q3⟩
    | _ => exact hq.elim
theorem de_make {cls : Nat} (M : Mk X.K (G.C cls) f) (F : FnOk X.prog X.w X.K X.mg X.base (L2.CX X.prog X.w) k f fd ps (SpF G true n c)) (hr : Room (k + 1) X.A) (hg : Gl X x) (hm : X.mg x = some (.ref (G.C cls))) (hb : Binds X.K fd ps dus) (hd : Vals dvs dus) (tk : Takes X W)
    (ha : DA X G W (e :: es) ms) (hn : 1 + ms.length + dvs.length = n) (hpn : ps.length = n) (hdd : ∀ (H : Hp) (S : Sset), RepL G H S dvs dds) (hdb : (x == ("__debug__" : Str)) = false := by decide) (he : starEach (e :: es) X.env = (false, eval e X.env) :: starEach es X.env := by rfl) (hpl : (backTo pos (starEach es X.env)).any (·.1) = false := by rfl) :
    DE X G W (.Call (.Name x p) (e :: es) [] pos) (mMake c cls ms dds) := by
  refine ⟨fun pins s σ H Q I h => ?_⟩
  obtain ⟨g, env, S, P, I0, h⟩ := h
  have h2 := bindL_ok (RL' := fun vs H1 => vs.length = ms.length ∧ ∀ y dx, H1 y = none → H1 dx = none → dx ≠ y → SpF G true n c (.ref y :: (vs ++ dvs)) (L2.upd (L2.upd H1 dx (.own y)) y (.ins (G.C cls) dx [])) (fun v H2 => v = .non ∧ Q (.ref y) H2) (fun cls dd H => W cls dd σ H)) I0 h
    fun ds env1 vs H1 S1 gr I1 r l h => ⟨l, sp_make I1 (r.append (hdd H1 S1)) (by rw [List.length_append, l]; omega) h⟩
  refine wpAny_Call_Name_kw (ld_glob I hg hm ?_ hdb)
  refine PySem.W.callWith_K (h₀ := X.base) I.ok.mod.kin M.kp (thn (ha.run pos pins s σ H _ I h2) fun us s1 ⟨vs, H1, I1, r, l, q⟩ => ⟨I1.kIn, ?_⟩) he hpl
  have r2 := r.append hd
  refine runMake (bs := us ++ dus) M F hr (fun s2 u hk => ?_) r2 (passAt tk σ) I1 q
  have := hb s2 (u :: us) hk (by rw [List.cons_append, List.length_cons, ← r2.length, List.length_append, l]; omega)
  rwa [List.cons_append] at this
end
end DL

set_option Elab.async false
set_option linter.all false
set_option maxRecDepth 100000
set_option maxHeartbeats 1000000
/-! DL12: fields stored, roots changed in place, sorted texts, slices, join, isinstance. -/
namespace DL
open PySem L2
section
variable {X : Cx} {G : Ctx} {W : WX} {g : Gh} {σ : St} {H H1 H' : Hp} {env env1 : EV} {S S1 : Sset} {P : List (Addr × D)} {Q : VK} {Z : Ends} {v w : V} {d d' : D} {o : Bool} {e : Expr} {es : List Expr} {m : ME} {ms : List ME} {pos p : Pos} {a : Addr} {x : Str}
/-! ### self.f = e -/
theorem putF_zip_new {f : Str} {v : V} : ∀ {F : List Str} {vs : List V}, F.Nodup → F[vs.length]? = some f → putF f v (F.zip vs) = F.zip (vs ++ [v])
  | [], vs, _, h => by simp at h
  | y :: F, [], _, h => by
    simp at h; subst h
    simp [putF]
  | y :: F, u :: vs, nd, h => by
    have nd' := List.nodup_cons.mp nd
    have hF : F[vs.length]? = some f := by simpa using h
    have ne : ¬ y = f := fun e => nd'.1 (e ▸ List.mem_of_getElem? hF)
    rw [List.zip_cons_cons, List.cons_append, List.zip_cons_cons]
    show (if y = f then (y, v) :: F.zip vs else (y, u) :: putF f v (F.zip vs)) = _
    rw [if_neg ne, putF_zip_new nd'.2 hF]
theorem putF_zip_old {f : Str} {v : V} : ∀ {F : List Str} {vs : List V} {j : Nat}, F.Nodup → F[j]? = some f → j < vs.length → putF f v (F.zip vs) = F.zip (vs.set j v)
  | [], vs, j, _, h, _ => by simp at h
  | y :: F, [], j, _, _, hj => by simp at hj
  | y :: F, u :: vs, 0, _, h, _ => by
    simp at h; subst h
    simp [putF]
  | y :: F, u :: vs, j + 1, nd, h, hj => by
    have nd' := List.nodup_cons.mp nd
    have hF : F[j]? = some f := by simpa using h
    have ne : ¬ y = f := fun e => nd'.1 (e ▸ List.mem_of_getElem? hF)
    rw [List.zip_cons_cons, List.set_cons_succ, List.zip_cons_cons]
    show (if y = f then (y, v) :: F.zip vs else (y, u) :: putF f v (F.zip vs)) = _
    rw [if_neg ne, putF_zip_old nd'.2 hF (by simpa using hj)]
def putAt (j : Nat) (ds : List D) (d : D) : Option (List D) := match decide (j < ds.length) with
  | true => some (ds.set j d)
  | false => match decide (j = ds.length) with
    | true => some (ds ++ [d])
    | false => none
/-- a root in slot i is changed: p tells how -/
def updE (i : Nat) (p : D → Option D) (k : EV → RS) : MS := fun env => match env[i]? with
  | some (some (d, t)) => match t with
    | .s => .bad
    | t => match p d with
      | some d' => k (env.set i (some (d', t)))
      | none => .bad
  | _ => .bad
def fldPut (idx : Nat → Option Nat) (d : D) : D → Option D
  | .obj c ds => match idx c with
    | some j => (putAt j ds d).map (.obj c ·)
    | none => none
  | _ => none
def mFld (i : Nat) (idx : Nat → Option Nat) (m : ME) : MS := bindS m fun d _ => updE i (fldPut idx d) .nx
theorem updE_ok {i : Nat} {p : D → Option D} (I : SI G g σ H env S []) (h : PostS G W g H S Z (updE i p .nx env)) : ∃ d t d' a, env[i]? = some (some (d, t)) ∧ t ≠ .s ∧ p d = some d' ∧ σ[i]? = some (some (.ref a)) ∧ Own G H S a d ∧
    ∀ u, At G (L2.upd H a u) S a d' → Z.nx σ (L2.upd H a u) := by
  unfold updE at h
  cases q : env[i]? with
  | none => simp only [q] at h; exact h.elim
  | some r =>
    cases r with
    | none => simp only [q] at h; exact h.elim
    | some dt =>
      obtain ⟨d, t⟩ := dt
      simp only [q] at h
      have ht : t ≠ .s := fun z => by subst z; exact h
      have h : PostS G W g H S Z (match p d with | some d' => .nx (env.set i (some (d', t))) | none => .bad) := by cases t <;> first | exact absurd rfl ht | exact h
      cases q2 : p d with
      | none => simp only [q2] at h; exact h.elim
      | some d' =>
        simp only [q2] at h
        obtain ⟨a, h1, h2, _⟩ := I.own i d t ht q
        refine ⟨d, t, d', a, rfl, ht, q2, h1, h2, fun u hat => h σ _ S (fun b hb => ⟨hb, upd_ne (show b ≠ a from fun e => h2.1 (e ▸ hb))⟩) (I.write ht q h1 hat)⟩
theorem own_grow {u : HO} (h : Own G H S a d) : Grow S H S (L2.upd H a u) := fun b hb => ⟨hb, upd_ne (show b ≠ a from fun e => h.1 (e ▸ hb))⟩
theorem ds_fld {i : Nat} {f : Str} {idx : Nat → Option Nat} {pos' : Pos} {ob : Expr} (hf : FldOk X.K G f idx) (hF : ∀ c, (G.F c).length ≤ 900) (hob : PE X ob (tVar i)) (he : DE X G W e m) (hs : swapsWith e (some (.Attribute ob f pos')) pos.line X.env = pure false := by rfl) :
    DS X G W (.Assign [.Attribute ob f pos'] e pos) (mFld i idx m) :=
  psImp (ps_fld hob he hs) fun Z σ H ⟨g, env, S, I, h⟩ => bindS_ok I h fun d o env1 v H1 S1 gr hv h => by
    obtain ⟨S2, g2, I2, r2⟩ := hv.frz
    obtain ⟨d0, t, d', a, h1, h2, h3, h4, h5, k⟩ := updE_ok I2 (h.mono g2)
    cases d0 with
    | obj c ds =>
      obtain ⟨dx, vs, k1, k2, k3⟩ := h5.2
      simp only [fldPut] at h3
      cases q : idx c with
      | none => simp [q] at h3
      | some j =>
        obtain ⟨f1, f2, f3, f4⟩ := hf c j q
        simp only [q] at h3
        have lz : ((G.F c).zip vs).length < 1000 := by rw [List.length_zip]; have := hF c; omega
        refine ⟨.ref a, h4, a, _, dx, _, rfl, k1, f1, f2, lz, ?_⟩
        unfold putAt at h3
        have el := k3.length
        cases q1 : decide (j < ds.length) with
        | true =>
          have hj := of_decide_eq_true q1
          simp only [q1, Option.map_some, Option.some.injEq] at h3
          subst h3
          exact k _ ⟨dx, vs.set j v, by rw [upd_same, putF_zip_old f4 f3 (by omega)], by rw [List.length_set]; exact k2, (k3.set r2 j).mono (own_grow h5)⟩
        | false =>
          simp only [q1] at h3
          cases q3 : decide (j = ds.length) with
          | false => simp [q3] at h3
          | true =>
            have hj := of_decide_eq_true q3
            simp only [q3, Option.map_some, Option.some.injEq] at h3
            subst h3
            have hlt : j < (G.F c).length := (List.getElem?_eq_some_iff.mp f3).1
            exact k _ ⟨dx, vs ++ [v], by rw [upd_same, putF_zip_new f4 (by rw [el, ← hj]; exact f3)], by rw [List.length_append]; simp; omega, (k3.append (.cons r2 .nil)).mono (own_grow h5)⟩
    | _ => simp [fldPut] at h3

/-! ### a list's own methods -/
def updM (i : Nat) (r : Option (D × D)) : ME := fun env => match env[i]? with
  | some (some (_, t)) => match t with
    | .s => .bad
    | t => match r with
      | some (d', x) => .ok x false (env.set i (some (d', t)))
      | none => .bad
  | _ => .bad
def isLst (env : EV) (i : Nat) : Bool := match env[i]? with
  | some (some (.lst _, .o)) => true
  | some (some (.lst _, .p)) => true
  | _ => false
def datI (env : EV) (i : Nat) : D := match env[i]? with
  | some (some (d, _)) => d
  | _ => .non
/-- x.m(e, ..), x a list of the frame's -/
def mMt (i : Nat) (p : D → List D → Option (D × D)) (ms : List ME) : ME := fun env => match isLst env i with
  | true => bindL ms (fun ds env => updM i (p (datI env i) ds) env) env
  | false => .bad
/-- what a changing method does: PM -/
def PM (G : Ctx) (r : V → List V → Hp → VK → Prop) (p : D → List D → Option (D × D)) : Prop := ∀ (H : Hp) (S : Sset) (a : Addr) (d d' x : D) (ws : List V) (ds : List D) (Q : VK), Own G H S a d → RepL G H S ws ds → p d ds = some (d', x) →
  (∀ v u, At G (L2.upd H a u) S a d' → Rep G (L2.upd H a u) S v x → Q v (L2.upd H a u)) → r (.ref a) ws H Q
theorem isLst_ok {i : Nat} (I : SI G g σ H env S P) (h : isLst env i = true) : ∃ ds t a vs, env[i]? = some (some (.lst ds, t)) ∧ t ≠ .s ∧ σ[i]? = some (some (.ref a)) ∧ H a = some (.lst vs) := by
  unfold isLst at h
  split at h
  · rename_i ds q
    obtain ⟨a, h1, h2, _⟩ := I.own i _ .o (by decide) q
    obtain ⟨vs, k1, _⟩ := h2.2
    exact ⟨ds, .o, a, vs, q, by decide, h1, k1⟩
  · rename_i ds q
    obtain ⟨a, h1, h2, _⟩ := I.own i _ .p (by decide) q
    obtain ⟨vs, k1, _⟩ := h2.2
    exact ⟨ds, .p, a, vs, q, by decide, h1, k1⟩
  · cases h
theorem tMt {i : Nat} {K : PySem.W.Frag} {r : V → List V → Hp → VK → Prop} {p : D → List D → Option (D × D)} (hp : PM G r p) (h : trE G W (mMt i p ms) σ H Q) : tVar i σ H fun x H1 => tyV K "list" x H1 ∧ trL G W ms σ H1 fun xs H2 => r x xs H2 Q := by
  obtain ⟨g, env, S, P, I, h⟩ := h
  unfold mMt at h
  cases q : isLst env i with
  | false => simp only [q] at h; exact h.elim
  | true =>
    simp only [q] at h
    obtain ⟨ds0, t0, a, vs0, h1, h2, h3, h4⟩ := isLst_ok I q
    refine ⟨.ref a, h3, .inl ⟨rfl, vs0, SqL.of h4⟩, bindL_ok I h fun ds env1 vs H1 S1 gr I1 rl l h => ?_⟩
    unfold updM at h
    cases q1 : env1[i]? with
    | none => simp only [q1] at h; exact h.elim
    | some r0 =>
      cases r0 with
      | none => simp only [q1] at h; exact h.elim
      | some dt =>
        obtain ⟨d, t⟩ := dt
        simp only [q1] at h
        have ht : t ≠ .s := fun z => by subst z; exact h
        have h : PostE G W g σ H1 S1 P Q (match p (datI env1 i) ds with | some (d', x) => .ok x false (env1.set i (some (d', t))) | none => .bad) := by cases t <;> first | exact absurd rfl ht | exact h
        have ed : datI env1 i = d := by unfold datI; rw [q1]
        rw [ed] at h
        cases q2 : p d ds with
        | none => simp only [q2] at h; exact h.elim
        | some dx =>
          obtain ⟨d', x⟩ := dx
          simp only [q2] at h
          obtain ⟨b, k1, k2, _⟩ := I1.own i d t ht q1
          rw [h3] at k1; injection k1 with k1; injection k1 with k1; injection k1 with k1; subst k1
          exact hp H1 S1 a d d' x vs ds Q k2 rl q2 fun v u hat hr => h v _ S1 (own_grow k2) ⟨I1.write ht q1 h3 hat, hr⟩
theorem de_mt {i : Nat} {o : Expr} {id : String} {name : Str} {apos cpos : Pos} {r : V → List V → Hp → VK → Prop} {p : D → List D → Option (D × D)} (pa : PlainAttrs "list") (slot : Slot "list" name id) (hty : typeOf (.builtin id) = pure (.type "method_descriptor")) (hm : MtR X id r) (hp : PM G r p)
    (ho : PE X o (tVar i)) (ha : DA X G W (e :: es) ms) (hbase : attributeBase o name X.env (eval o X.env) = eval o X.env := by rfl)
    (hfew : ((backTo cpos (starEach (e :: es) X.env)).all (fun x => !x.1) && (backToKw cpos (keywordEach [] X.env)).all (fun x => x.1.isSome)
      && decide ((e :: es).length + ([] : List Keyword).length + (if ([] : List Keyword).isEmpty then 0 else 1) < 30)) = true := by rfl)
    (hline : (apos.endLine == cpos.line) = true := by rfl) (hs : starEach (e :: es) X.env = (false, eval e X.env) :: starEach es X.env := by rfl) (hplain : (backTo cpos (starEach es X.env)).any (·.1) = false := by rfl) :
    DE X G W (.Call (.Attribute o name apos) (e :: es) [] cpos) (mMt i p ms) :=
  peImp (pe_bm pa slot hty hm ho ha hbase hfew hline hs hplain) fun σ H Q h => tMt hp h
def appendP : D → List D → Option (D × D)
  | .lst xs, [y] => match decide (xs.length < sizeLine) with | true => some (.lst (xs ++ [y]), .non) | false => none
  | _, _ => none
theorem appendP_ok : PM G rAppend appendP := fun H S a d d' x ws ds Q ow rl e k => by
  cases d <;> rcases ds with _ | ⟨y, _ | ⟨_, _⟩⟩ <;> simp only [appendP, reduceCtorEq] at e
  rename_i xs
  split at e
  · rename_i hlt
    have hlt := of_decide_eq_true hlt
    cases e
    obtain ⟨vs, h1, h2, h3⟩ := ow.2
    cases rl with
    | cons r0 r1 =>
      cases r1
      refine ⟨a, vs, _, rfl, rfl, h1, by rw [h3.length]; exact hlt, k _ _ ⟨_, upd_same, ?_, (h3.append (.cons r0 .nil)).mono (own_grow ow)⟩ .non⟩
      rw [List.length_append, h3.length]; exact hlt
  · cases e
def extendP : D → List D → Option (D × D)
  | .lst xs, [.lst ys] => match decide (xs.length + ys.length ≤ sizeLine) with | true => some (.lst (xs ++ ys), .non) | false => none
  | _, _ => none
theorem extendP_ok : PM G rExtend extendP := fun H S a d d' x ws ds Q ow rl e k => by
  cases d <;> rcases ds with _ | ⟨y, _ | ⟨_, _⟩⟩ <;> (try cases y) <;> simp only [extendP, reduceCtorEq] at e
  rename_i xs ys
  split at e
  · rename_i hlt
    have hlt := of_decide_eq_true hlt
    cases e
    obtain ⟨vs, h1, h2, h3⟩ := ow.2
    cases rl with
    | cons r0 r1 =>
      cases r1
      cases r0 with
      | lst s0 hH hl r2 =>
        refine ⟨a, _, vs, _, rfl, rfl, h1, hH, by rw [h3.length, r2.length]; exact hlt, k _ _ ⟨_, upd_same, ?_, (h3.append r2).mono (own_grow ow)⟩ .non⟩
        rw [List.length_append, h3.length, r2.length]; exact hlt
  · cases e
def popAtP : D → List D → Option (D × D)
  | .lst xs, [.int i] => match decide (-(2 ^ 63) ≤ i) && decide (i < 2 ^ 63) with
    | true => match seqIndex? i xs.length with
      | some k => (xs[k]?).map fun y => (.lst (xs.eraseIdx k), y)
      | none => none
    | false => none
  | _, _ => none
theorem popAtP_ok : PM G rPopAt popAtP := fun H S a d d' x ws ds Q ow rl e k => by
  cases d <;> rcases ds with _ | ⟨y, _ | ⟨_, _⟩⟩ <;> (try cases y) <;> simp only [popAtP, reduceCtorEq] at e
  rename_i xs i
  split at e
  · rename_i hc
    simp only [Bool.and_eq_true, decide_eq_true_eq] at hc
    obtain ⟨vs, h1, h2, h3⟩ := ow.2
    cases q : seqIndex? i xs.length with
    | none => simp [q] at e
    | some j =>
      cases q2 : xs[j]? with
      | none => simp [q, q2] at e
      | some y =>
        simp [q, q2] at e
        obtain ⟨rfl, rfl⟩ := e
        cases rl with
        | cons r0 r1 =>
          cases r1; cases r0
          obtain ⟨v, k1, k2⟩ := h3.get q2
          refine ⟨a, vs, i, j, v, rfl, rfl, h1, hc.1, hc.2, by rw [h3.length]; exact q, k1, k _ _ ⟨_, upd_same, ?_, (h3.erase j).mono (own_grow ow)⟩ (k2.mono (own_grow ow))⟩
          exact Nat.le_trans (List.length_eraseIdx_le _ _) h2
  · cases e
theorem de_mt0 {i : Nat} {o : Expr} {id : String} {name : Str} {apos cpos : Pos} {r : V → List V → Hp → VK → Prop} {p : D → List D → Option (D × D)} (hr : ∀ (te : TE), (∀ σ H Q, (te σ H fun x H1 => tyV X.K "list" x H1 ∧ r x [] H1 Q) → tBM0 X.K "list" r te σ H Q)) (hpe : PE X (.Call (.Attribute o name apos) [] [] cpos) (tBM0 X.K "list" r (tVar i))) (hp : PM G r p) : DE X G W (.Call (.Attribute o name apos) [] [] cpos) (mMt i p []) :=
  peImp hpe fun σ H Q h => by
    obtain ⟨v, hv, ty, q⟩ := tMt (K := X.K) hp h
    obtain ⟨g, env, S, P, I, q⟩ := q
    exact ⟨v, hv, ty, q [] H S Grow.rfl' I .nil rfl⟩
def popP : D → List D → Option (D × D)
  | .lst xs, [] => (xs[xs.length - 1]?).map fun y => (.lst xs.dropLast, y)
  | _, _ => none
theorem RepL.dropLast {vs : List V} {ds : List D} (h : RepL G H S vs ds) : RepL G H S vs.dropLast ds.dropLast := by
  rw [List.dropLast_eq_take, List.dropLast_eq_take, h.length]; exact h.take _
theorem popP_ok : PM G rPop popP := fun H S a d d' x ws ds Q ow rl e k => by
  cases d <;> cases ds <;> simp only [popP, reduceCtorEq] at e
  rename_i xs
  cases q : xs[xs.length - 1]? with
  | none => simp [q] at e
  | some y =>
    simp [q] at e
    obtain ⟨rfl, rfl⟩ := e
    obtain ⟨vs, h1, h2, h3⟩ := ow.2
    cases rl
    obtain ⟨v, k1, k2⟩ := h3.get q
    refine ⟨a, vs, v, rfl, rfl, h1, by rw [h3.length]; exact k1, k _ _ ⟨_, upd_same, ?_, h3.dropLast.mono (own_grow ow)⟩ (k2.mono (own_grow ow))⟩
    rw [List.length_dropLast]; omega

/-! ### x[i] = e -/
theorem psetOr {t t' : TSet} (h : PSet X t) (h' : PSet X t') : PSet X (fun o i v H Q => t o i v H Q ∨ t' o i v H Q) := fun pins s σ H o i v ov iv u Q I r1 r2 r3 q => q.elim (h pins s σ H o i v ov iv u Q I r1 r2 r3) (h' pins s σ H o i v ov iv u Q I r1 r2 r3)
theorem set_dict (hu : X.A.units + 1 < cLine) : PSet X (fun o i v H Q => ∃ a H4, o = .ref a ∧ DPut H a i v H4 ∧ Q H4) := fun pins s σ H o i v ov iv u Q I r1 r2 r3 ⟨a, H4, e, q, k⟩ => by
  subst e
  obtain rfl : ov = Value.ref a := r1
  exact d_setItem hu I q r2 r3 fun s' I' => ⟨H4, I', k⟩
def setP (y v : D) : D → Option D
  | .lst xs => match y with
    | .int k => (ixN xs.length k).map fun j => .lst (xs.set j v)
    | _ => none
  | .dct kvs => match keyD y with
    | some k => match decide (kvs.length < sizeLine) with | true => some (.dct (putD kvs k v)) | false => none
    | none => none
  | _ => none
theorem RepK.put {k : Key} {y : D} (hk : keyOk k) (r : Rep G H S v y) : ∀ {vs : List (Key × V)} {ds : List (Key × D)}, RepK G H S vs ds → RepK G H S (putK vs k v) (putD ds k y) := fun {vs ds} h => by
  have any : ∀ {vs : List (Key × V)} {ds : List (Key × D)}, RepK G H S vs ds → (vs.any fun kv => decide (kv.1 = k)) = (ds.any fun kv => decide (kv.1 = k)) := by
    intro vs ds h
    induction vs generalizing ds with
    | nil => cases h; rfl
    | cons p vs ih =>
      cases h with
      | cons k' r' rs => rw [List.any_cons, List.any_cons, ih rs]
  have mp : ∀ {vs : List (Key × V)} {ds : List (Key × D)}, RepK G H S vs ds → RepK G H S (vs.map fun kv => if kv.1 = k then (kv.1, v) else kv) (ds.map fun kv => if kv.1 = k then (kv.1, y) else kv) := by
    intro vs ds h
    induction vs generalizing ds with
    | nil => cases h; exact .nil
    | cons p vs ih =>
      cases h with
      | @cons k0 v0 d0 _ _ k' r' rs =>
        rw [List.map_cons, List.map_cons]
        by_cases e : k0 = k
        · rw [if_pos e, if_pos e]
          exact .cons (e ▸ hk) r (ih rs)
        · rw [if_neg e, if_neg e]
          exact .cons k' r' (ih rs)
  have ap : ∀ {vs : List (Key × V)} {ds : List (Key × D)}, RepK G H S vs ds → RepK G H S (vs ++ [(k, v)]) (ds ++ [(k, y)]) := by
    intro vs ds h
    induction vs generalizing ds with
    | nil => cases h; exact .cons hk r .nil
    | cons p vs ih =>
      cases h with
      | cons k' r' rs => exact .cons k' r' (ih rs)
  unfold putK putD
  rw [any h]
  split
  · exact mp h
  · exact ap h
def mSub (i : Nat) (mk : ME) (mv : ME) : MS := bindS mv fun d _ env => match env[i]? with
  | some (some _) => bindS mk (fun y _ => updE i (setP y d) .nx) env
  | _ => .bad
theorem ds_sub {i : Nat} {ob ix : Expr} {mk : ME} {pos' : Pos} (hu : X.A.units + 1 < cLine) (hob : PE X ob (tVar i)) (hi : DE X G W ix mk) (hv : DE X G W e m)
    (ha : ∀ v, assign (.Subscript ob ix pos') X.env v = (do
      let ov ← holding [v] (eval ob X.env)
      let iv ← holding [v, ov] (eval ix X.env)
      standAt pos'
      holding [v, ov, iv] (setItem ov iv v)
      release [v, ov, iv] []) := by intro _; rfl)
    (hs : swapsWithSole [.Subscript ob ix pos'] e pos.line X.env = pure false := by rfl) (hw : swappedStores [.Subscript ob ix pos'] e X.env = pure none := by rfl)
    (h1 : (assignEach [.Subscript ob ix pos'] X.env).map (·.2) = [assign (.Subscript ob ix pos') X.env] := by rfl) : DS X G W (.Assign [.Subscript ob ix pos'] e pos) (mSub i mk m) :=
  psImp (ps_asg hv (pg_sub hob hi (psetOr set_list (set_dict hu)) ha) hs hw h1) fun Z σ H ⟨g, env, S, I, h⟩ => bindS_ok I h fun d o env1 v H1 S1 gr hv h => by
    obtain ⟨S2, g2, I2, r2⟩ := hv.frz
    have h := h.mono g2
    cases q : env1[i]? with
    | none => simp only [q] at h; exact h.elim
    | some r =>
      cases r with
      | none => simp only [q] at h; exact h.elim
      | some dt =>
        simp only [q] at h
        obtain ⟨u, hu⟩ : ∃ u, σ[i]? = some (some u) := by
          obtain ⟨d0, t0⟩ := dt
          by_cases ht : t0 = .s
          · subst ht; obtain ⟨u, k1, _⟩ := I2.shr i d0 q; exact ⟨u, k1⟩
          · obtain ⟨b, k1, _⟩ := I2.own i d0 t0 ht q; exact ⟨_, k1⟩
        refine ⟨u, hu, bindS_ok I2 h fun y o2 env3 w H3 S3 g3 hw h => ?_⟩
        obtain ⟨S4, g4, I4, r4⟩ := hw.frz
        obtain ⟨d0, t, d', a, k1, k2, k3, k4, k5, k⟩ := updE_ok I4 (h.mono g4)
        rw [hu] at k4; injection k4 with k4; injection k4 with k4; subst k4
        have rv := r2.mono (g3.trans g4)
        cases d0 with
        | lst xs =>
          obtain ⟨vs, q1, q2, q3⟩ := k5.2
          cases y with
          | int j =>
            cases r4
            simp only [setP] at k3
            cases q4 : ixN xs.length j with
            | none => simp [q4] at k3
            | some jj =>
              simp [q4] at k3; subst k3
              exact .inl ⟨a, vs, j, jj, rfl, rfl, q1, by rw [q3.length]; exact q4, k _ ⟨_, upd_same, by rw [List.length_set]; exact q2, (q3.set rv jj).mono (own_grow k5)⟩⟩
          | _ => simp [setP] at k3
        | dct kvs =>
          obtain ⟨vs, q1, q2, q3⟩ := k5.2
          simp only [setP] at k3
          cases q4 : keyD y with
          | none => simp [q4] at k3
          | some key =>
            cases q5 : decide (kvs.length < sizeLine) with
            | false => simp [q4, q5] at k3
            | true =>
              simp [q4, q5] at k3; subst k3
              have hlt := of_decide_eq_true q5
              obtain ⟨rfl, hk⟩ := keyD_ok q4 (.inl r4)
              refine .inr ⟨a, _, rfl, DPut.k q1 (by rw [q3.length]; exact hlt), k _ ⟨_, upd_same, ?_, (q3.put hk rv).mono (own_grow k5)⟩⟩
              have := length_putK vs key v
              have := q3.length
              omega
        | _ => simp [setP] at k3

/-! ### sorted texts -/
def sLe (x y : Str) : Bool := !Spec.ltCps y.cps.toList x.cps.toList
def sIns (x : Str) : List Str → List Str
  | [] => [x]
  | y :: r => match sLe x y with
    | true => x :: y :: r
    | false => y :: sIns x r
def sSort : List Str → List Str
  | [] => []
  | x :: r => sIns x (sSort r)
end
end DL

set_option Elab.async false
set_option linter.all false
set_option maxRecDepth 100000
set_option maxHeartbeats 1000000
/-! DL13: sorted texts, slices, join, isinstance, dict displays. -/
namespace DL
open PySem L2
/-! ### sorted texts -/
theorem cps_inj {x y : Str} (h : x.cps.toList = y.cps.toList) : x = y := by
  cases x; cases y; congr; exact Array.toList_inj.mp h
theorem sLe_iff {x y : Str} : sLe x y = true ↔ ¬ y.cps.toList < x.cps.toList := by
  unfold sLe
  rw [PyProof.Rows.ltCps_eq, Bool.not_eq_true', decide_eq_false_iff_not]
theorem sLe_total (x y : Str) (h : sLe x y = false) : sLe y x = true := by
  rw [sLe_iff]
  have : ¬ sLe x y = true := by rw [h]; simp
  rw [sLe_iff, Classical.not_not] at this
  exact fun z => List.lt_irrefl _ (List.lt_trans this z)
theorem sLe_trans {x y z : Str} (h1 : sLe x y = true) (h2 : sLe y z = true) : sLe x z = true := by
  rw [sLe_iff] at *
  have h1 := List.not_lt.mp h1
  have h2 := List.not_lt.mp h2
  exact List.not_lt.mpr (List.le_trans h1 h2)
theorem sLe_anti {x y : Str} (h1 : sLe x y = true) (h2 : sLe y x = true) : x = y := by
  rw [sLe_iff] at *
  exact cps_inj (List.le_antisymm (List.not_lt.mp h1) (List.not_lt.mp h2))
theorem sIns_perm (x : Str) : ∀ l : List Str, (sIns x l).Perm (x :: l)
  | [] => .refl _
  | y :: r => by
    unfold sIns
    split
    · exact .refl _
    · exact ((sIns_perm x r).cons y).trans (.swap _ _ _)
theorem sSort_perm : ∀ l : List Str, (sSort l).Perm l
  | [] => .refl _
  | x :: r => (sIns_perm x _).trans ((sSort_perm r).cons x)
theorem sIns_sorted (x : Str) : ∀ l : List Str, l.Pairwise (fun a b => sLe a b = true) → (sIns x l).Pairwise (fun a b => sLe a b = true)
  | [], _ => List.pairwise_singleton _ _
  | y :: r, h => by
    have h' := List.pairwise_cons.mp h
    unfold sIns
    split
    · rename_i hle
      refine List.pairwise_cons.mpr ⟨fun z hz => ?_, h⟩
      rcases List.mem_cons.mp hz with rfl | hz
      · exact hle
      · exact sLe_trans hle (h'.1 z hz)
    · rename_i hle
      refine List.pairwise_cons.mpr ⟨fun z hz => ?_, sIns_sorted x r h'.2⟩
      rcases List.mem_cons.mp ((sIns_perm x r).mem_iff.mp hz) with rfl | hz
      · exact sLe_total _ _ hle
      · exact h'.1 z hz
theorem sSort_sorted : ∀ l : List Str, (sSort l).Pairwise (fun a b => sLe a b = true)
  | [] => .nil
  | x :: r => sIns_sorted x _ (sSort_sorted r)
theorem sorted_pair : ∀ (l : List Str), PyProof.Rows.sortedS l = true → l.Pairwise (fun a b => sLe a b = true) := by
  have ris : ∀ (l : List Str) (p : Str), PyProof.Rows.risingS p l = true → (∀ z ∈ l, sLe p z = true) ∧ l.Pairwise (fun a b => sLe a b = true) := by
    intro l
    induction l with
    | nil => intro p _; exact ⟨fun _ h => (nomatch h), .nil⟩
    | cons x r ih =>
      intro p h
      unfold PyProof.Rows.risingS at h
      obtain ⟨h1, h2⟩ := Bool.and_eq_true_iff.mp h
      obtain ⟨k1, k2⟩ := ih x h2
      have hx : sLe p x = true := h1
      refine ⟨fun z hz => ?_, List.pairwise_cons.mpr ⟨k1, k2⟩⟩
      rcases List.mem_cons.mp hz with rfl | hz
      · exact hx
      · exact sLe_trans hx (k1 z hz)
  intro l h
  cases l with
  | nil => exact .nil
  | cons x r =>
    obtain ⟨k1, k2⟩ := ris r x h
    exact List.pairwise_cons.mpr ⟨k1, k2⟩
theorem sort_uniq {l ys : List Str} (p : ys.Perm l) (h : PyProof.Rows.sortedS ys = true) : ys = sSort l :=
  List.Perm.eq_of_pairwise (fun a b _ _ => sLe_anti) (sorted_pair ys h) (sSort_sorted l) (p.trans (sSort_perm l).symm)
section
variable {X : Cx} {G : Ctx} {W : WX} {g : Gh} {σ : St} {H H1 H' : Hp} {env env1 : EV} {S S1 : Sset} {P : List (Addr × D)} {Q : VK} {Z : Ends} {v w : V} {d d' : D} {o : Bool} {e : Expr} {es : List Expr} {m : ME} {ms : List ME} {pos p : Pos} {a : Addr} {x : Str}
def sortP : D → RP
  | .lst xs => match strsD xs with
    | some ss => match decide (ss.length < 64) with
      | true => some (.lst ((sSort ss).map D.str), true)
      | false => none
    | none => none
  | _ => none
theorem sortP_ok {K : PySem.W.Frag} : P1 G (fun v H Q => rSortedS K [v] H Q) sortP := fun H S v x d o Q hS rx e k => by
  cases x <;> simp only [sortP, reduceCtorEq] at e
  rename_i xs
  cases q : strsD xs with
  | none => simp [q] at e
  | some ss =>
    cases q2 : decide (ss.length < 64) with
    | false => simp [q, q2] at e
    | true =>
      simp [q, q2] at e
      obtain ⟨rfl, rfl⟩ := e
      obtain ⟨a, vs, rfl, h1, h2, h3⟩ := rx.lst
      obtain ⟨ev, hs⟩ := strs_rep h3 q
      subst ev
      have h64 := of_decide_eq_true q2
      refine ⟨a, ss, rfl, SqL.of h1, h64, fun ys p hp hs' hpn => ?_⟩
      have := sort_uniq hp hs'
      subst this
      exact k _ _ (New.lst hS hpn (rep_strs fun x hx => hs x ((sSort_perm ss).mem_iff.mp hx)) (by rw [List.length_map, (sSort_perm ss).length_eq]; exact small64 h64))

/-! ### slices -/
def cutD (xs : List D) (lo hi : Option Int) : List D := (xs.drop (HT.sIx xs.length 0 lo)).take (HT.sIx xs.length xs.length hi - HT.sIx xs.length 0 lo)
def cutI (xs : List Int) (lo hi : Option Int) : List Int := (xs.drop (HT.sIx xs.length 0 lo)).take (HT.sIx xs.length xs.length hi - HT.sIx xs.length 0 lo)
theorem cut_rep {vs : List V} {ds : List D} (h : RepL G H S vs ds) (lo hi : Option Int) : RepL G H S (cutV vs lo hi) (cutD ds lo hi) := by
  unfold cutV cutD
  rw [h.length]
  exact (h.drop _).take _
def sliceP (x : D) (lo hi : Option Int) : RP := match x with
  | .lst ds => some (.lst (cutD ds lo hi), true)
  | .scr ns => some (.lst ((cutI ns lo hi).map D.int), true)
  | .str z => some (.str (cutS z lo hi), false)
  | .tup ds => some (.tup (cutD ds lo hi), false)
  | _ => none
/-- the parts of a slice, from the left -/
def partE (m : Option ME) (k : Option Int → ME) : ME := match m with
  | none => k none
  | some m => bindE m fun y => match y with
    | .int i => k (some i)
    | _ => fun _ => .bad
def mSl (a : Opn) (lo hi : Option ME) : ME := bindO a fun pa => partE lo fun i => partE hi fun j env => match dat pa env with
  | some x => liftP (sliceP x i j) env
  | none => .bad
def rSlAll (K : PySem.W.Frag) : V → Option Int → Option Int → Hp → VK → Prop := fun x lo hi H Q => rSlL K x lo hi H Q ∨ (rSlA K x lo hi H Q ∨ rSlS x lo hi H Q)
theorem sl_all : SlR X (rSlAll X.K) := sl_list.or (sl_tupA.or sl_str)
theorem cutV_whole {vs : List V} {lo hi : Option Int} (h : HT.sIx vs.length 0 lo = 0 ∧ HT.sIx vs.length vs.length hi = vs.length) : cutV vs lo hi = vs := by
  unfold cutV; rw [h.1, h.2]; simp
theorem cutD_whole {ds : List D} {lo hi : Option Int} (h : HT.sIx ds.length 0 lo = 0 ∧ HT.sIx ds.length ds.length hi = ds.length) : cutD ds lo hi = ds := by
  unfold cutD; rw [h.1, h.2]; simp
theorem sOk_cut {z : Str} (h : sOk z) (lo hi : Option Int) : sOk (cutS z lo hi) := by
  constructor
  · show (List.toArray _).size ≤ sizeLine
    rw [List.size_toArray]
    refine Nat.le_trans (List.length_take_le' _ _) ?_
    rw [List.length_drop]
    have := h.1
    have e : z.length = z.cps.toList.length := by rw [Array.length_toList]; rfl
    omega
  · have := h.2
    unfold PyData.strOk at *
    show (List.toArray _).all _ = true
    rw [← Array.all_toList, List.all_eq_true] at *
    intro c hc
    exact this c (List.mem_of_mem_drop (List.mem_of_mem_take hc))
theorem sliceP_ok {K : PySem.W.Frag} (hK : G.K = K) {lo hi : Option Int} (hS : ∀ a, S a → ∃ u, H a = some u) (rx : RepB G H S v d) (e : sliceP d lo hi = some (d', o)) (k : ∀ v' H', New G H S v' H' d' o → Q v' H') : rSlAll K v lo hi H Q := by
  cases d <;> simp only [sliceP, reduceCtorEq, Option.some.injEq, Prod.mk.injEq] at e
  · obtain ⟨rfl, rfl⟩ := e
    obtain ⟨rfl, h⟩ := rx.str
    exact .inr (.inr ⟨_, rfl, h.1, k _ _ (New.same (.str (sOk_cut h _ _)))⟩)
  · obtain ⟨rfl, rfl⟩ := e
    obtain ⟨a, vs, rfl, h1, h2, h3⟩ := rx.tup hK
    refine .inr (.inl ⟨a, vs, rfl, h1, fun hw => ?_, fun hw p hp => ?_⟩)
    · rw [h3.length] at hw
      rw [cutD_whole hw] at k
      refine k _ _ (New.same ?_)
      rcases rx with h | ⟨_, _, h⟩
      · exact h
      · exact h.elim
    · exact k _ _ (New.tup hS hp (cut_rep h3 _ _) (Nat.le_trans (cutV_length _ _ _) h2))
  · obtain ⟨rfl, rfl⟩ := e
    obtain ⟨a, vs, rfl, h1, h2, h3⟩ := rx.lst
    exact .inl ⟨a, vs, rfl, SqL.of h1, fun p hp => k _ _ (New.lst hS hp (cut_rep h3 _ _) (Nat.le_trans (cutV_length _ _ _) h2))⟩
  · rename_i ns
    obtain ⟨rfl, rfl⟩ := e
    obtain ⟨a, rfl, h1, hl⟩ := rx.scr
    have e0 : cutV (ns.map V.int) lo hi = (cutI ns lo hi).map V.int := by
      unfold cutV cutI
      rw [List.length_map, ← List.map_drop, ← List.map_take]
    refine .inl ⟨a, _, rfl, scr_sq hK h1, fun p hp => ?_⟩
    rw [e0]
    refine k _ _ (New.lst hS hp (rep_ints _) ?_)
    rw [List.length_map]
    unfold cutI
    refine Nat.le_trans (List.length_take_le' _ _) ?_
    rw [List.length_drop]
    omega
/-- the parts' readings -/
def tOpt (G : Ctx) (W : WX) (m : Option ME) : TO := match m with
  | none => tNoPart
  | some m => tPart (trE G W m)
def DPO (X : Cx) (G : Ctx) (W : WX) (e : Option Expr) (m : Option ME) : Prop := PO X e (tOpt G W m)
theorem dpo_none : DPO X G W none none := po_none
theorem dpo_some (h : DE X G W e m) : DPO X G W (some e) (some m) := po_some h
theorem partE_ok {m : Option ME} {k : Option Int → ME} {R : Option Int → Hp → Prop} (I : SI G g σ H env S P) (h : PostE G W g σ H S P Q (partE m k env))
    (hk : ∀ i env1 H1 S1, Grow S H S1 H1 → SI G g σ H1 env1 S1 P → PostE G W g σ H1 S1 P Q (k i env1) → R i H1) : tOpt G W m σ H R := by
  cases m with
  | none => exact hk none env H S Grow.rfl' I h
  | some m =>
    refine bindE_ok (R := fun x H1 => ∃ i, x = V.int i ∧ R (some i) H1) I h fun y env1 v H1 S1 gr I1 r h => ?_
    cases y with
    | int i => cases r; exact ⟨i, rfl, hk (some i) env1 H1 S1 gr I1 h⟩
    | _ => exact h.elim
theorem de_slice {b : Expr} {oa : Opn} {lo hi : Option Expr} {ml mh : Option ME} {p2 : Pos} (hK : G.K = X.K) (hb : DO X G W b oa) (hl : DPO X G W lo ml) (hh : DPO X G W hi mh) : DE X G W (.Subscript b (.Slice lo hi none p2) pos) (mSl oa ml mh) :=
  peImp (pe_slice sl_all hb.pe hl hh) fun σ H Q ⟨g, env, S, P, I, h⟩ => bindO_ok I h fun pa env1 v H1 S1 g1 I1 ha h =>
    partE_ok I1 h fun i env2 H2 S2 g2 I2 h => partE_ok I2 h fun j env3 H3 S3 g3 I3 h => by
      cases ed : dat pa env3 with
      | none => simp only [ed] at h; exact h.elim
      | some d =>
        simp only [ed] at h
        obtain ⟨d', o, e, k⟩ := liftP_ok I3 h
        exact sliceP_ok hK I3.shH (dat_ok I3 (ha.mono (g2.trans g3)) ed) e k
/-- x[::-1] of a list -/
def revP : D → RP
  | .lst ds => some (.lst ds.reverse, true)
  | _ => none
theorem de_rev {b : Expr} {oa : Opn} {k : Nat} {p1 p2 p3 : Pos} (hb : DO X G W b oa) : DE X G W (.Subscript b (.Slice none none (some (.UnaryOp .USub (.Constant (.int 1) k p1) p2)) p3) pos) (mO1 revP oa) :=
  peImp (pe_revL hb.pe) fun σ H Q h => tO1 (r := fun x H1 Q => ∃ a xs, x = .ref a ∧ SqL X.K H1 a xs ∧ ∀ p, H1 p = none → Q (.ref p) (L2.upd H1 p (.lst xs.reverse))) (fun H S v x d o Q hS rx e k => by
    cases x <;> simp only [revP, reduceCtorEq, Option.some.injEq, Prod.mk.injEq] at e
    obtain ⟨rfl, rfl⟩ := e
    obtain ⟨a, vs, rfl, h1, h2, h3⟩ := rx.lst
    exact ⟨a, vs, rfl, SqL.of h1, fun p hp => k _ _ (New.lst hS hp h3.rev (by rw [List.length_reverse]; exact h2))⟩) h
/-! ### sep.join(xs) -/
def joinP : D → D → RP
  | .str z, .lst xs => match strsD xs with
    | some ss => match decide ((ss.map (·.length)).sum + ss.length * z.length ≤ 16777216) with
      | true => some (.str (Txt.join z ss), false)
      | false => none
    | none => none
  | _, _ => none
def mJoin (a : ME) (b : Opn) : ME := bindE a fun x => match x with
  | .str z => bindO b fun pb env => match dat pb env with
    | some y => liftP (joinP (.str z) y) env
    | none => .bad
  | _ => fun _ => .bad
theorem sOk_join {z : Str} {ss : List Str} (hz : sOk z) (hs : ∀ x ∈ ss, sOk x) (h : (ss.map (·.length)).sum + ss.length * z.length ≤ 16777216) : sOk (Txt.join z ss) := by
  rw [show Txt.join z ss = Str.join z ss from TL.join_eq z ss]
  refine ⟨Nat.le_trans (PySem.StrLaws.join_length_le z ss) (by rw [sizeLine_eq]; exact h), ?_⟩
  have app : ∀ x y : Str, PyData.strOk x = true → PyData.strOk y = true → PyData.strOk (x ++ y) = true := fun x y h1 h2 => by
    unfold PyData.strOk at *
    show ((x.cps ++ y.cps).all fun c => decide (c < 0x110000)) = true
    rw [Array.all_append, h1, h2]; rfl
  clear h
  induction ss with
  | nil => exact (by decide +kernel : PyData.strOk Str.empty = true)
  | cons x r ih =>
    cases r with
    | nil => exact (hs x List.mem_cons_self).2
    | cons y r =>
      have := ih fun u hu => hs u (List.mem_cons_of_mem _ hu)
      show PyData.strOk (x ++ z ++ Str.join z (y :: r)) = true
      exact app _ _ (app _ _ (hs x List.mem_cons_self).2 hz.2) this
theorem de_join {ob : Expr} {apos : Pos} {ma : ME} {o2 : Opn} (ho : DE X G W ob ma) (he : DO X G W e o2) (hs : starEach [e] X.env = [(false, eval e X.env)] := by rfl) (hbase : attributeBase ob "join" X.env (eval ob X.env) = eval ob X.env := by rfl) (hline : (apos.endLine == pos.line) = true := by rfl) :
    DE X G W (.Call (.Attribute ob "join" apos) [e] [] pos) (mJoin ma o2) :=
  peImp (pe_join ho he.pe hs hbase hline) fun σ H Q ⟨g, env, S, P, I, h⟩ => bindE_ok I h fun x env1 v H1 S1 g1 I1 rx h => by
    cases x with
    | str z =>
      obtain ⟨rfl, hz⟩ := (Rep.b rx).str
      refine ⟨⟨z, rfl⟩, bindO_ok I1 h fun pb env2 w H2 S2 g2 I2 hb h => ?_⟩
      cases ed : dat pb env2 with
      | none => simp only [ed] at h; exact h.elim
      | some y =>
        simp only [ed] at h
        obtain ⟨d', o, e, k⟩ := liftP_ok I2 h
        have ry := dat_ok I2 hb ed
        cases y <;> simp only [joinP, reduceCtorEq] at e
        rename_i xs
        cases q : strsD xs with
        | none => simp [q] at e
        | some ss =>
          cases q2 : decide ((ss.map (·.length)).sum + ss.length * z.length ≤ 16777216) with
          | false => simp [q, q2] at e
          | true =>
            simp [q, q2] at e
            obtain ⟨rfl, rfl⟩ := e
            obtain ⟨a, vs, rfl, h1, h2, h3⟩ := ry.lst
            obtain ⟨ev, hs⟩ := strs_rep h3 q
            subst ev
            have hl := of_decide_eq_true q2
            exact ⟨z, a, ss, rfl, rfl, .inl (SqL.of h1), hl, k _ _ (New.same (.str (sOk_join hz hs hl)))⟩
    | _ => exact h.elim
end
end DL

set_option Elab.async false
set_option linter.all false
set_option maxRecDepth 100000
set_option maxHeartbeats 1000000
/-! DL14: isinstance, dict displays, dict.get, setdefault-free dicts. -/
namespace DL
open PySem L2
/-- a class that is asked for -/
inductive Cl where
  | str | int | bool | list | tuple | dict | own (c : Nat)
  deriving DecidableEq
/-- is it one; anc: the classes that stand above one, itself among them -/
def isA (anc : Nat → List Nat) : Cl → D → Bool
  | .str, .str _ => true
  | .int, .int _ => true
  | .int, .bl _ => true
  | .bool, .bl _ => true
  | .list, .lst _ => true
  | .list, .scr _ => true
  | .tuple, .tup _ => true
  | .dict, .dct _ => true
  | .dict, .dtt _ => true
  | .own c, .obj c' _ => (anc c').contains c
  | _, _ => false
def tyVal (G : Ctx) : D → Option Value
  | .non => some (.type "NoneType") | .bl _ => some (.type "bool") | .int _ => some (.type "int") | .str _ => some (.type "str")
  | .tup _ => some (.type "tuple") | .lst _ => some (.type "list") | .scr _ => some (.type "list") | .dct _ => some (.type "dict") | .dtt _ => some (.type "dict")
  | .obj c _ => some (.ref (G.C c))
  | _ => none
def clVal (G : Ctx) : Cl → Value
  | .str => .type "str" | .int => .type "int" | .bool => .type "bool" | .list => .type "list" | .tuple => .type "tuple" | .dict => .type "dict"
  | .own c => .ref (G.C c)
def clV (G : Ctx) : Cl → V
  | .str => .ty "str" | .int => .ty "int" | .bool => .ty "bool" | .list => .ty "list" | .tuple => .ty "tuple" | .dict => .ty "dict"
  | .own c => .ref (G.C c)
theorem clV_ok (G : Ctx) (c : Cl) : ClsV (clV G c) (clVal G c) := by cases c <;> constructor
/-- which classes may be asked of an instance (oks: of which ones) -/
def okObj (oks : List Nat) : D → Bool
  | .obj c _ => oks.contains c
  | .exc _ _ => false
  | .thk _ _ _ => false
  | _ => true
/-- what the written part says of the class -/
structure InsK (K : PySem.W.Frag) (C : Addr) : Prop where
  cl : Cls K C
  ha : PySem.W.findIn K (.ref C) "__class__" = some (some (.builtin "object.__class__"))
  hn : PySem.W.specialIn K (.builtin "object.__class__") "__get__" = some (some (.builtin "getset_descriptor.__get__"))
  ht : PySem.W.takesIn K (.builtin "object.__class__") = some true
  hm : PySem.W.mroIn K C (.type "object") = some true
def KitOk (K : PySem.W.Frag) (G : Ctx) (anc : Nat → List Nat) (oks : List Nat) (cl : Cl) : Prop := ∀ d t, okObj oks d = true → tyVal G d = some t → PySem.W.kitOne K t (clVal G cl) = some (isA anc cl d)
def bltCl : Cl → Bool
  | .own _ => false
  | _ => true
/-- a built-in class: the own classes' rows alone are left to show -/
theorem kit_blt {K : PySem.W.Frag} {G : Ctx} {anc : Nat → List Nat} {oks : List Nat} {cl : Cl} (hb : bltCl cl = true) (h : ∀ c, oks.contains c = true → PySem.W.kitOne K (.ref (G.C c)) (clVal G cl) = some false) : KitOk K G anc oks cl := fun d t ho ht => by
  cases cl with
  | own c => cases hb
  | str => cases d <;> simp only [tyVal, Option.some.injEq, reduceCtorEq] at ht <;> subst ht <;> first | exact h _ ho | exact kit_ty (r := true) (by decide +kernel) | exact kit_ty (r := false) (by decide +kernel)
  | int => cases d <;> simp only [tyVal, Option.some.injEq, reduceCtorEq] at ht <;> subst ht <;> first | exact h _ ho | exact kit_ty (r := true) (by decide +kernel) | exact kit_ty (r := false) (by decide +kernel)
  | bool => cases d <;> simp only [tyVal, Option.some.injEq, reduceCtorEq] at ht <;> subst ht <;> first | exact h _ ho | exact kit_ty (r := true) (by decide +kernel) | exact kit_ty (r := false) (by decide +kernel)
  | list => cases d <;> simp only [tyVal, Option.some.injEq, reduceCtorEq] at ht <;> subst ht <;> first | exact h _ ho | exact kit_ty (r := true) (by decide +kernel) | exact kit_ty (r := false) (by decide +kernel)
  | tuple => cases d <;> simp only [tyVal, Option.some.injEq, reduceCtorEq] at ht <;> subst ht <;> first | exact h _ ho | exact kit_ty (r := true) (by decide +kernel) | exact kit_ty (r := false) (by decide +kernel)
  | dict => cases d <;> simp only [tyVal, Option.some.injEq, reduceCtorEq] at ht <;> subst ht <;> first | exact h _ ho | exact kit_ty (r := true) (by decide +kernel) | exact kit_ty (r := false) (by decide +kernel)
/-- an own class -/
theorem kit_own {K : PySem.W.Frag} {G : Ctx} {anc : Nat → List Nat} {oks : List Nat} {c : Nat} (h : ∀ c', oks.contains c' = true → PySem.W.kitOne K (.ref (G.C c')) (.ref (G.C c)) = some ((anc c').contains c))
    (h2 : ∀ T, T ∈ ["NoneType", "bool", "int", "str", "tuple", "list", "dict"] → PySem.W.kitOne K (.type T) (.ref (G.C c)) = some false) : KitOk K G anc oks (.own c) := fun d t ho ht => by
  cases d <;> simp only [tyVal, Option.some.injEq, reduceCtorEq] at ht <;> subst ht <;> first | exact h _ ho | exact h2 _ (by decide)
section
variable {X : Cx} {G : Ctx} {W : WX} {g : Gh} {σ : St} {H H1 H' : Hp} {env env1 : EV} {S S1 : Sset} {P : List (Addr × D)} {Q : VK} {Z : Ends} {v w : V} {d d' : D} {o : Bool} {e e2 : Expr} {es : List Expr} {m : ME} {ms : List ME} {pos p : Pos} {a : Addr} {x : Str}
theorem tyX_of {K : PySem.W.Frag} {oks : List Nat} {t : Value} (hK : G.K = K) (hi : ∀ c, oks.contains c = true → InsK K (G.C c)) (ho : okObj oks d = true) (ht : tyVal G d = some t) (r : RepB G H S v d) : TyX K H v t := by
  cases d <;> simp only [tyVal, Option.some.injEq, reduceCtorEq] at ht <;> (try subst ht)
  · rw [r.non]; exact .base .non
  · rw [r.bl]; exact .base (.bl _)
  · rw [r.int]; exact .base (.int _)
  · rw [r.str.1]; exact .base (.str _)
  · obtain ⟨a, vs, rfl, h1, _, _⟩ := r.tup hK
    rcases h1 with (h1 | ⟨ob, h1⟩) | ⟨ob, _, _, h1, h2, _⟩
    · exact .base (.tup h1)
    · exact .fTuple h1
    · exact .kTuple h1 h2
  · obtain ⟨a, vs, rfl, h1, _, _⟩ := r.lst
    exact .base (.lst h1)
  · obtain ⟨a, vs, rfl, h1, _, _⟩ := r.dct
    exact .base (.dK h1)
  · rcases r with r | ⟨a, rfl, vs, h1, _⟩
    · cases r with
      | dtt _ h1 => exact .base (.dT h1)
    · exact .base (.dT h1)
  · rename_i c ds
    obtain ⟨a, dx, vs, rfl, h1, _, _⟩ := r.obj
    have q := hi c ho
    exact .base (.ins h1 q.cl q.ha q.hn q.ht q.hm)
  · obtain ⟨a, rfl, h1, _⟩ := r.scr
    rcases h1 with ⟨ob, h1⟩ | ⟨o, its, n, k1, k2, _⟩
    · exact .base (.frz h1)
    · subst hK
      exact .kList k1 k2
def isiP (anc : Nat → List Nat) (oks : List Nat) (cls : List Cl) : D → RP := fun d => match okObj oks d with
  | true => some (.bl (cls.any fun c => isA anc c d), false)
  | false => none
theorem ty_some {oks : List Nat} (ho : okObj oks d = true) : ∃ t, tyVal G d = some t := by
  cases d <;> first | exact ⟨_, rfl⟩ | cases ho
theorem de_isi {anc : Nat → List Nat} {oks : List Nat} {cl : Cl} {oa : Opn} {px : Pos} (hK : G.K = X.K) (hi : ∀ c, oks.contains c = true → InsK X.K (G.C c)) (hk : KitOk X.K G anc oks cl) (hg : Gl X "isinstance") (hm : X.mg "isinstance" = none) (ha : DO X G W e oa) (hc : PE X e2 (tC (clV G cl)))
    (h1 : starEach (e :: e2 :: []) X.env = (false, eval e X.env) :: starEach [e2] X.env := by rfl) (h2 : starEach (e2 :: []) X.env = (false, eval e2 X.env) :: starEach [] X.env := by rfl) (hpl : (backTo pos (starEach [e2] X.env)).any (·.1) = false := by rfl) :
    DE X G W (.Call (.Name "isinstance" px) [e, e2] [] pos) (mO1 (isiP anc oks [cl]) oa) :=
  peImp (pe_callB call_isi hg hm (by decide +kernel) (pa_cons ha.pe (pa_cons hc pa_nil h2) h1) (by decide) (by decide) h1 hpl) fun σ H Q h => tO1 (r := fun v H Q => rIsi X.K [v, clV G cl] H Q) (fun H S v x d o Q hS rx e k => by
    unfold isiP at e
    cases q : okObj oks x with
    | false => rw [q] at e; cases e
    | true =>
      rw [q] at e
      obtain ⟨t, ht⟩ := ty_some (G := G) q
      injection e with e; injection e with e1 e2; subst e1; subst e2
      have hb := hk x t q ht
      refine ⟨v, clV G cl, t, clVal G cl, _, rfl, clV_ok G cl, tyX_of hK hi q ht rx, hb, ?_⟩
      have e0 : ([cl].any fun c => isA anc c x) = isA anc cl x := by simp
      rw [e0] at k
      exact k_bl k) h
/-- isinstance(x, (A, B)) -/
theorem de_isi2 {anc : Nat → List Nat} {oks : List Nat} {c1 c2 : Cl} {e3 : Expr} {oa : Opn} {px pt : Pos} {kt} (hK : G.K = X.K) (hi : ∀ c, oks.contains c = true → InsK X.K (G.C c)) (hk : KitOk X.K G anc oks c1) (hk2 : KitOk X.K G anc oks c2) (hg : Gl X "isinstance") (hm : X.mg "isinstance" = none) (ha : DO X G W e oa) (hc : PE X e2 (tC (clV G c1))) (hc2 : PE X e3 (tC (clV G c2)))
    (h1 : starEach (e :: .Tuple [e2, e3] kt pt :: []) X.env = (false, eval e X.env) :: starEach [.Tuple [e2, e3] kt pt] X.env := by rfl) (h2 : starEach (.Tuple [e2, e3] kt pt :: []) X.env = (false, eval (.Tuple [e2, e3] kt pt) X.env) :: starEach [] X.env := by rfl)
    (h3 : starEach (e2 :: e3 :: []) X.env = (false, eval e2 X.env) :: starEach [e3] X.env := by rfl) (h4 : starEach (e3 :: []) X.env = (false, eval e3 X.env) :: starEach [] X.env := by rfl)
    (hpl : (backTo pos (starEach [.Tuple [e2, e3] kt pt] X.env)).any (·.1) = false := by rfl) :
    DE X G W (.Call (.Name "isinstance" px) [e, .Tuple [e2, e3] kt pt] [] pos) (mO1 (isiP anc oks [c1, c2]) oa) :=
  peImp (pe_callB call_isiT hg hm (by decide +kernel) (pa_cons ha.pe (pa_cons (pe_tup (pa_cons hc (pa_cons hc2 pa_nil h4) h3)) pa_nil h2) h1) (by decide) (by decide) h1 hpl) fun σ H Q ⟨g, env, S, P, I, h⟩ => by
    show tO G W oa σ H fun v H1 => 2 ≤ sizeLine ∧ ∀ p, H1 p = none → rIsiT X.K [v, .ref p] (L2.upd H1 p (.tup [clV G c1, clV G c2])) Q
    refine bindO_ok I h fun pa env1 v H1 S1 g1 I1 ha h => ⟨by decide, fun p hp => ?_⟩
    have I2 := I1.ext (N := Nul) (H' := L2.upd H1 p (.tup [clV G c1, clV G c2])) (Ext.upd hp) fun _ h => h.elim
    rw [or1_nul] at I2
    have g2 : Grow S1 H1 S1 (L2.upd H1 p (.tup [clV G c1, clV G c2])) := grow_upd I1.shH hp
    cases ed : dat pa env1 with
    | none => simp only [ed] at h; exact h.elim
    | some x =>
      simp only [ed] at h
      obtain ⟨d, o, e, k⟩ := liftP_ok I2 (h.mono g2)
      unfold isiP at e
      cases q : okObj oks x with
      | false => rw [q] at e; cases e
      | true =>
        rw [q] at e
        obtain ⟨t, ht⟩ := ty_some (G := G) q
        injection e with e; injection e with e1 e2; subst e1; subst e2
        have b1 := hk x t q ht
        have b2 := hk2 x t q ht
        have kany : PySem.W.kitAny X.K t [clVal G c1, clVal G c2] = some ([c1, c2].any fun c => isA anc c x) := by
          cases z1 : isA anc c1 x <;> cases z2 : isA anc c2 x <;> rw [z1] at b1 <;> rw [z2] at b2 <;> simp [PySem.W.kitAny, b1, b2, z1, z2]
        exact ⟨v, p, _, t, [clVal G c1, clVal G c2], _, rfl, upd_same, .cons (clV_ok G c1) (.cons (clV_ok G c2) .nil), tyX_of hK hi q ht (dat_ok I2 (ha.mono g2) ed), kany, k_bl k⟩
end
end DL

set_option Elab.async false
set_option linter.all false
set_option maxRecDepth 100000
set_option maxHeartbeats 1000000
/-! DL15: own errors over ValueError whose __init__ says super().__init__(f); self.f = f: made, raised. -/
namespace DL
open PySem PySem.W PySem.Calls PyProof.Rows PySem.HandSPX
def xA (f : Str) (p1 p2 : Pos) : Arguments := { posonlyargs := [], args := [{ arg := "self", annotation := none, pos := p1 }, { arg := f, annotation := none, pos := p2 }], vararg := none, kwonlyargs := [], kw_defaults := [], kwarg := none, defaults := [] }
def xB (f : Str) (q1 q2 q3 q4 q5 q6 q7 q8 q9 q10 : Pos) : List Stmt :=
  [.Expr (.Call (.Attribute (.Call (.Name "super" q1) [] [] q2) "__init__" q3) [.Name f q4] [] q5) q6, .Assign [.Attribute (.Name "self" q7) f q8] (.Name f q9) q10]
structure XSc (sc : Scope) (f : Str) : Prop where
  kind : sc.kind = .function
  co : sc.isCoroutine = false
  gen : sc.isGenerator = false
  self : sc.names.lookup ("self" : Str) = some .local
  fld : sc.names.lookup f = some .local
  sup : sc.names.lookup ("super" : Str) = some .globalImplicit
  cls : sc.names.lookup ("__class__" : Str) = some .free
  nocell : ∀ y ∈ sc.names, y.2 ≠ .cell
  fd : (f == ("__debug__" : Str)) = false
  fs : (f == ("self" : Str)) = false
/-- what the written part says of an own error class C, of its __init__ at fI -/
structure ExT (prog : Program) (K : Frag) (mg : Str → Option Value) (C fI : Addr) (f : Str) : Prop where
  cls : ∃ nm q N bs bm sn sub ab col dd k0 k1 k2 k3 k5, K.lookup C = some (excClassObj nm q C N bs bm true sn sub ab col dd k0 k1 k2 k3 k5 "ValueError.__new__") ∧ refsVE bm = true
  sa : findIn K (.ref C) "__setattr__" = some (some (.builtin "object.__setattr__"))
  ga : findIn K (.ref C) "__getattribute__" = some (some (.builtin "BaseException.__getattribute__"))
  gg : findIn K (.ref C) "__getattr__" = some none
  noN : findIn K (.ref C) f = some none
  iC : findIn K (.ref C) "__init__" = some (some (.ref fI))
  tC : typeIn K (.ref fI) = some (.type "function")
  kC : keepIn K (.ref C) = true
  exC : subIn K (.ref C) (.type "BaseException") = some true
  tyC : typeIn K (.ref C) = some (.type "type")
  hdC : hasDictIn K C = true
  ve : subIn K (.ref C) (.type "ValueError") = some true
  su : ks_superIn K C C "__init__" = some (some (.builtin "ValueError.__init__"))
  mr : mroIn K C (.ref C) = some true
  op : nsIn K cStatics "thirdparty.any" = some none
  sp : mg "super" = none
  top : (prog.main.scope.names.lookup ("super" : Str)).isSome = false
  fn : ∃ (cc cda : Addr) (cl : Value) (cld : Option Addr) (csl : Array (Option Value)) (ccl : Value) (cdd : Option Addr) (vs : Array Value) (ccs : Array (Option Value)) (file : Str) (tf : Tok) (oc : Value) (od : Option Addr) (qual : Str) (doc pm : Value) (an : Option Addr) (ct : Value) (osl : Array (Option Value)) (sc : Scope) (p1 p2 q1 q2 q3 q4 q5 q6 q7 q8 q9 q10 : Pos),
    K.lookup cc = some ⟨cl, cld, .cell (some (.ref C)), csl⟩ ∧ K.lookup cda = some ⟨ccl, cdd, .fields vs, ccs⟩ ∧ vs[2]? = some (.str file tf) ∧ ((prog.main.file : Str) == file) = true ∧
    K.lookup fI = some ⟨oc, od, .func (ksFn "__init__" qual (xA f p1 p2) (xB f q1 q2 q3 q4 q5 q6 q7 q8 q9 q10) sc .none .none doc pm an (.ref cda) ct cc), osl⟩ ∧ codeIn K (.ref cda) qual = true ∧ XSc sc f ∧
    (∀ env : Env, ∃ pl : Sem Bool, eval (.Call (.Attribute (.Call (.Name "super" q1) [] [] q2) "__init__" q3) [.Name f q4] [] q5) env = (do
      let ov ← attributeBase (.Call (.Name "super" q1) [] [] q2) "__init__" env (eval (.Call (.Name "super" q1) [] [] q2) env)
      standAt q3.atName
      let (m, first) ← holding [ov] (getMethod ov "__init__" pl)
      callWith q5 m first (backTo q5 (starEach [.Name f q4] env)) [])) ∧
    ∀ (s : Shared) (a b : Value), BindsTo s (ksFn "__init__" qual (xA f p1 p2) (xB f q1 q2 q3 q4 q5 q6 q7 q8 q9 q10) sc .none .none doc pm an (.ref cda) ct cc) ⟨[a, b], []⟩ [("self", a), (f, b)]
theorem x_one (v : Value) : [v].length ≤ sizeLine := by
  rw [sizeLine_eq]
  exact (by decide : 1 ≤ 16777216)
theorem ldX {M : Model} {s : Shared} {qual : Str} {scope : Scope} {L a : Addr} {cd : Value} {cc : Addr} {m : Str → Option Value} {x : Str} {pos : Pos} {v : Value} {Q : Value → Shared → Prop} {A : Around} {E : Value → Shared → Prop} (hn : s.heap.Ns L m) (hv : m x = some v) (h : Q v s)
    (hk : scope.kind = .function) (hl : scope.names.lookup x = some .local) (hd : (x == ("__debug__" : Str)) = false) :
    wpAny M A (eval (.Name x pos) (ksEnv qual scope L a cd cc)) Q E s := wpAny_Name (wpAny_loadName_local (env := ksEnv qual scope L a cd cc) hk hl hn hv h) hd
structure XEnd (h h' : Heap) (x C dx t1 : Addr) (f : Str) (v : Value) : Prop where
  keep : ∀ b o, b ≠ x → h.get? b = some o → h'.get? b = some o
  obj : h'.get? x = some { cls := .ref C, dict := some dx, data := .fields #[.ref t1, .none, .none, .none, .bool false, .none] }
  dbig : h.objs.size ≤ dx
  dne : dx ≠ x
  ns : h'.Ns1 dx (fun y => if y = f then some v else none)
section
variable {prog : Program} {w : World} {A : Around} {E : Value → Shared → Prop} {R : Result → Shared → Prop} {s : Shared} {K : Frag} {mg mb : Str → Option Value} {C fI : Addr} {f : Str}
theorem kept_but {K : Frag} {h h' : Heap} {x : Addr} (X : K.In h) (hx : K.lookup x = none) (k : ∀ b o, b ≠ x → h.get? b = some o → h'.get? b = some o) : K.In h' := fun a o e =>
  k a o (fun z => by rw [z, hx] at e; cases e) (X a o e)
theorem x_init (T : ExT prog K mg C fI f) {x t0 : Addr} {v : Value} (X : K.In s.heap) (hg : s.heap.Ns mainGlobals mg) (hb : s.heap.Ns builtinsNs mb) (hmb : mb "super" = some (.type "super")) (hlim : s.heap.NoLimit) (hx : s.heap.get? x = some (excO C t0)) (hnx : K.lookup x = none) (hroom : A.depth < recursionLimit)
    (hq : ∀ h' tk dx t1, XEnd s.heap h' x C dx t1 f v → R (.ok (.ret .none)) { s with heap := h', toks := tk }) :
    codeAny (model prog w) A (.call (.ref fI) ⟨[.ref x, v], []⟩) R s := by
  obtain ⟨cc, cda, cl, cld, csl, ccl, cdd, vs, ccs, file, tf, oc, od, qual, doc, pm, an, ct, osl, sc, p1, p2, q1, q2, q3, q4, q5, q6, q7, q8, q9, q10, hcell, hcode, hvs, hfile, ho, hcd, Sc, hev, bd⟩ := T.fn
  obtain ⟨sk, sn0, sg, sco, smo⟩ := sc
  obtain rfl : sk = .function := Sc.kind
  obtain rfl : sg = false := Sc.gen
  obtain rfl : sco = false := Sc.co
  obtain ⟨nm, q, N, bs, bm, sn, sub, ab, col, dd, k0, k1, k2, k3, k5, hC, hbm⟩ := T.cls
  have hcl : clsIn K C = some { name := nm, bases := bs, mro := .ref C :: bm, ns := N, qualname := q, hasDict := true, slotNames := sn, subclasses := sub, abstract := ab, collection := col, hasDel := false } := by unfold clsIn; rw [hC] <;> rfl
  obtain ⟨hh, g, d, t, os⟩ := s
  refine ks_codeAny_call_defAt (fd := ksFn "__init__" qual (xA f p1 p2) (xB f q1 q2 q3 q4 q5 q6 q7 q8 q9 q10) ⟨.function, sn0, false, false, smo⟩ .none .none doc pm an (.ref cda) ct cc) (body := xB f q1 q2 q3 q4 q5 q6 q7 q8 q9 q10) (binds := [("self", .ref x), (f, v)]) hroom (X _ _ ho) rfl hlim (codeRec_of X hcd) rfl (bd _ _ _) Sc.nocell (fun y hy => ?_) (fun h₁ hns k₁ => ?_) Sc.co Sc.gen Sc.kind
  · rcases List.mem_cons.mp hy with rfl | hy
    · exact Sc.self
    · rcases List.mem_cons.mp hy with rfl | hy
      · exact Sc.fld
      · cases hy
  have X₁ : K.In h₁ := X.keeps k₁
  have hx₁ := k₁ _ _ hx
  have hC₁ := X₁ _ _ hC
  have hL : ∀ b o, hh.get? b = some o → b ≠ hh.objs.size := fun b o e => Nat.ne_of_lt (Heap.lt_size e)
  have vself : ([(("self" : Str), Value.ref x), (f, v)] : List (Str × Value)).reverse.lookup ("self" : Str) = some (.ref x) := by
    have z : (("self" : Str) == f) = false := by
      have := Sc.fs
      rw [beq_eq_false_iff_ne] at this ⊢
      exact Ne.symm this
    show (match (("self" : Str) == f) with | true => some v | false => List.lookup ("self" : Str) [(("self" : Str), Value.ref x)]) = _
    rw [z]
    rfl
  have vfld : ([(("self" : Str), Value.ref x), (f, v)] : List (Str × Value)).reverse.lookup f = some v := by
    show (match (f == f) with | true => some v | false => _) = _
    rw [beq_self_eq_true]
  show _root_.PySem.wpAt _ _ (.func _ (ksEnv qual ⟨.function, sn0, false, false, smo⟩ hh.objs.size fI (.ref cda) cc)) (execs _ (ksEnv qual ⟨.function, sn0, false, false, smo⟩ hh.objs.size fI (.ref cda) cc)) _ _ _
  obtain ⟨pl, hev⟩ := hev (ksEnv qual ⟨.function, sn0, false, false, smo⟩ hh.objs.size fI (.ref cda) cc)
  refine ks_wpAt_execs_cons (ks_wpAt_Expr_any (ks_wpAt_MethodCall (pl := pl) ?_ hev))
  refine ks_wpAt_super_base (env := ksEnv qual ⟨.function, sn0, false, false, smo⟩ hh.objs.size fI (.ref cda) cc) Sc.sup Sc.cls (by decide) rfl (X₁ _ _ ho) rfl rfl rfl (X₁ _ _ hcode) rfl hvs hfile T.top ?_
  refine ks_loadName_global Sc.kind Sc.sup (loadGlobal_builtin (env := ksEnv qual ⟨.function, sn0, false, false, smo⟩ hh.objs.size fI (.ref cda) cc) (hg.keeps k₁) T.sp (hb.keeps k₁) hmb ⟨rfl, ?_⟩)
  refine wpAny_loadName_free Sc.kind Sc.cls rfl ⟨_, X₁ _ _ hcell, rfl⟩ ?_
  refine wpAny_loadName_local Sc.kind Sc.self hns vself ?_
  refine ks_wpAny_isType_cls hC₁ rfl ⟨rfl, ?_⟩
  refine ks_wpAny_call_super hC₁ rfl hx₁ rfl (fun c e => by cases e) (looks_mroIn X₁ T.mr) (fun h₂ hso k₂ => ?_)
  have X₂ : K.In h₂ := X₁.keeps k₂
  have hx₂ := k₂ _ _ hx₁
  have I₂ : InstAt h₂ x (excO C t0) C none := ⟨hx₂, rfl, rfl, trivial⟩
  have hm' : alongIn K "__init__" (((.ref C :: bm).dropWhile (· != Value.ref C)).drop 1) = some (some (.builtin "ValueError.__init__")) := by
    have z := T.su
    unfold ks_superIn at z
    rw [hcl] at z
    exact z
  have hI : Looks (model prog w) h₂ (isInstance (.ref x) (.type "ValueError")) true := I₂.type.andThen (looks_subIn X₂ T.ve)
  refine kxs_getMethod kxs_ValueError hso (looks_opaque X₂ T.op) (l₀ := .ref C :: bm) (fun A Q E s k q => wpAny_bind ((looks_clsIn X₂ hcl) A _ E s k (wpAny_pure q))) rfl X₂ hm' hI (ks_ne X₂ I₂ hcl) (by decide) ?_
  have k₃ : ∀ b o, h₂.get? b = some o → (h₂.push (kxs_mw "ValueError.__init__" x)).get? b = some o := fun b o e => Heap.get?_push_of_some _ e
  have hu : (h₂.push (kxs_mw "ValueError.__init__" x)).get? h₂.objs.size = some (kxs_mw "ValueError.__init__" x) := Heap.get?_push_size _ rfl
  have hns₃ : (h₂.push (kxs_mw "ValueError.__init__" x)).Ns hh.objs.size (fun y => ([(("self" : Str), Value.ref x), (f, v)] : List (Str × Value)).reverse.lookup y) := (hns.keeps k₂).keeps k₃
  have hx₃ := k₃ _ _ hx₂
  have hC₃ := k₃ _ _ (X₂ _ _ hC)
  refine kxs_callWith (i := "ValueError.__init__") (x := x) (u := h₂.objs.size) (by rfl) ?_
  refine evalArgs_plain ?_
  refine Calls.spliced_cons (ldX hns₃ vfld ?_ Sc.kind Sc.fld Sc.fd)
  refine Calls.spliced_nil ⟨hu, ?_⟩
  show wpAny _ _ (call (.ref h₂.objs.size) [v]) _ _ _
  refine wpAny_call (codeAny_of_tree ?_)
  show wpAny _ _ (callAny (.ref h₂.objs.size) ⟨[v], []⟩) _ _ _
  simp only [callAny]
  refine wpAny_bind (wpAny_load hu ?_)
  simp only [kxs_mw, show (Value.type "method-wrapper" == Value.type "method" || Value.type "method-wrapper" == Value.type "builtin_function_or_method" || Value.type "method-wrapper" == Value.type "method-wrapper") = true by decide, if_true]
  refine KFB.if_so (by decide) ?_
  refine wpAny_bind (check_bound_init PySem.F.excBase_ValueError.toExcCallFacts hC₃ hx₃ rfl ?_)
  refine wpAny_bind (wpAny_pure (wpAny_pure ?_))
  refine ⟨plainId_quiet PySem.F.excBase_ValueError.init.plain _, codeAny_builtin PySem.F.excBase_ValueError.initEntry ?_⟩
  refine exc_init_tree (cls := .ref C) (t0 := t0) (dv := none) (c2 := .none) (c3 := .none) (b4 := .bool false) hx₃ (x_one v) fun h₄ k₄ hx₄ _ => ?_
  have hLx : hh.objs.size ≠ x := Ne.symm (hL x _ hx)
  have hns₄ : h₄.Ns hh.objs.size (fun y => ([(("self" : Str), Value.ref x), (f, v)] : List (Str × Value)).reverse.lookup y) := by
    obtain ⟨oL, es, ep, e1, r⟩ := hns₃
    exact ⟨oL, es, ep, k₄ _ _ hLx e1, r⟩
  have kk : ∀ b o, b ≠ x → hh.get? b = some o → h₄.get? b = some o := fun b o hb e => k₄ b o hb (k₃ _ _ (k₂ _ _ (k₁ _ _ e)))
  have X₄ : K.In h₄ := kept_but (X₂.keeps k₃) hnx k₄
  refine ks_wpAt_execs_cons (ks_wpAt_Assign_Attr (wpAt_of_wpAny (ldX hns₄ vfld (ldX hns₄ vself ?_ Sc.kind Sc.self (by decide)) Sc.kind Sc.fld Sc.fd)))
  refine set_plain X₄ (od := none) ⟨hx₄, rfl, rfl, trivial⟩ T.sa ?_
  refine exc_osa X₄ hx₄ hcl (show refsVE (.ref C :: bm) = true from hbm) rfl T.noN (fun h₅ tk₅ dx k₅ dn dne hx₅ hn₅ => ?_)
  refine wpAt_of_wpAny (wpAny_execs_nil (hq h₅ tk₅ dx _ ⟨fun b o hb e => k₅ b o hb (kk b o hb e), hx₅, ?_, dne, hn₅⟩))
  have z1 : hh.objs.size < h₁.objs.size := hns.lt
  have z2 := (hns₄).lt
  exact Nat.le_of_lt (Nat.lt_of_lt_of_le z2 dn)
/-- a made error -/
structure XMade (h h' : Heap) (e C d : Addr) (f : Str) (v : Value) : Prop where
  keep : ∀ b o, h.get? b = some o → h'.get? b = some o
  new : h.objs.size ≤ e
  obj : ∃ oe vs, h'.get? e = some oe ∧ oe.cls = .ref C ∧ oe.dict = some d ∧ oe.data = .fields vs ∧ vs[1]? = some .none
  dbig : h.objs.size ≤ d
  dne : d ≠ e
  ns : h'.Ns1 d (fun y => if y = f then some v else none)
theorem x_made (T : ExT prog K mg C fI f) {v : Value} (X : K.In s.heap) (hg : s.heap.Ns mainGlobals mg) (hb : s.heap.Ns builtinsNs mb) (hmb : mb "super" = some (.type "super")) (hlim : s.heap.NoLimit) (hroom : A.depth + 1 < recursionLimit)
    (hq : ∀ h' tk e d, XMade s.heap h' e C d f v → R (.ok (.ret (.ref e))) { s with heap := h', toks := tk }) :
    codeAny (model prog w) A (.call (.ref C) ⟨[v], []⟩) R s := by
  obtain ⟨nm, q, N, bs, bm, sn, sub, ab, col, dd, k0, k1, k2, k3, k5, hC, hbm⟩ := T.cls
  obtain ⟨hp, g, dr, tk, os⟩ := s
  have k : ∀ b o, hp.get? b = some o → ((hp.push (kdv_tup [v])).push (excO C hp.objs.size)).get? b = some o := fun b o e => Heap.get?_push_of_some _ (Heap.get?_push_of_some _ e)
  have hget : ((hp.push (kdv_tup [v])).push (excO C hp.objs.size)).get? (hp.objs.size + 1) = some (excO C hp.objs.size) := by heap_get
  have hnx : K.lookup (hp.objs.size + 1) = none := by
    cases e : K.lookup (hp.objs.size + 1) with
    | none => rfl
    | some o =>
      have z : hp.get? (hp.objs.size + 1) = some o := X _ _ e
      exact absurd (Nat.lt_of_succ_lt (Heap.lt_size z)) (Nat.lt_irrefl _)
  refine call_own PySem.F.excBase_ValueError (fun X => refsVE_contains X bm hbm) (X _ _ hC) (looks_findIn X T.iC) (fun self => bind_fn X self T.tC) (x_one v) ?_
  refine x_init (s := ⟨(hp.push (kdv_tup [v])).push (excO C hp.objs.size), g, dr, tk, os⟩) T (X.keeps k) (hg.keeps k) (hb.keeps k) hmb (hlim.keeps k) hget hnx ?_ fun h' tk' dx t1 ⟨k', hx, dn, dne, hns⟩ => ?_
  · show A.depth + 1 < recursionLimit
    exact hroom
  · have old : ∀ b o, hp.get? b = some o → h'.get? b = some o := fun b o e => k' b o (Nat.ne_of_lt (Nat.lt_succ_of_lt (Heap.lt_size e))) (k b o e)
    have z : hp.objs.size + 1 + 1 ≤ dx := by
      first
        | (simpa only [Heap.size_push] using dn)
        | exact dn
        | (have q := dn; rw [Heap.size_push, Heap.size_push] at q; exact q)
    exact ⟨rfl, hq h' tk' (hp.objs.size + 1) dx ⟨old, Nat.le_succ _, ⟨_, _, hx, rfl, rfl, rfl, rfl⟩, Nat.le_trans (Nat.le_trans (Nat.le_succ _) (Nat.le_succ _)) z, dne, hns⟩⟩
end
open PySem.Spec L2
theorem relO_x {v : V} {v' : Value} {g : Str} (r : RelV v v') (f : Str) : RelO (List.lookup f [(g, v)]) (if f = g then some v' else none) := by
  by_cases hw : f = g
  · subst hw
    rw [if_pos rfl]
    have q : List.lookup f [(f, v)] = some v := by simp [List.lookup]
    rw [q]
    exact r
  · rw [if_neg hw]
    have qw : (f == g) = false := by simpa using hw
    have q2 : List.lookup f [(g, v)] = none := by simp [List.lookup, qw]
    rw [q2]
    trivial
section
variable {X : Cx} {C fI : Addr} {f x : Str}
/-- x(e), x an own error's class -/
def tMkX (C : Addr) (f : Str) (ta : TA) : L2.St → Hp → XK → Prop := fun σ H Q => ta σ H fun vs H1 => ∃ v, vs = [v] ∧ ∀ d, H1 d = none → Q (.ref C) (some d) (L2.upd H1 d (.xd [(f, v)]))
theorem pmk_x {a : Expr} {ta : TA} {p pos : Pos} {k : Nat} (T : ExT X.prog X.K X.mg C fI f) (hr : Room k X.A) (ha : PA X [a] ta) (gC : X.mg x = some (.ref C)) (hg : Gl X x) (hdb : (x == ("__debug__" : Str)) = false := by decide)
    (he : starEach (a :: []) X.env = (false, eval a X.env) :: starEach [] X.env := by rfl) (hpl : (backTo pos (starEach [] X.env)).any (·.1) = false := by rfl) :
    PMk X (.Call (.Name x p) [a] [] pos) (tMkX C f ta) := by
  intro pins s σ H Q I h
  refine wpAny_Call_Name_kw (ld_glob I hg gC ?_ hdb)
  refine PySem.W.callWith_K (h₀ := X.base) I.ok.mod.kin T.kC (thn (ha.run pos pins s σ H _ I h) fun us s1 hh => ?_) he hpl
  obtain ⟨vs, H1, I1, r1, v, ev, q1⟩ := hh
  subst ev
  refine ⟨I1.kIn, ?_⟩
  cases r1 with
  | cons rv rn =>
    rename_i v' us'
    cases rn
    show wpAny _ _ (call (.ref C) [v']) _ _ _
    have hlim := I1.nolimit
    obtain ⟨mb, hb1, hb2⟩ := I1.mod.blt
    have hgl := I1.mod.glob.keeps I1.bk
    have hbl := hb1.keeps I1.bk
    have hmb : mb "super" = some (.type "super") := (hb2 "super" (by decide)).trans (by first | rfl | kernel_rfl)
    obtain ⟨hp, g, dr, tk, os⟩ := s1
    refine wpAny_call (x_made T I1.kIn hgl hbl hmb hlim (by have := hr.dp; omega) fun h' tk' e d M => ?_)
    show MkP X pins σ Q (.ref e) ⟨h', g, dr, tk', os⟩
    obtain ⟨oe, fv, hoe, hc, hd, hdat, h1⟩ := M.obj
    have hns := M.ns
    obtain ⟨G', g1, g2⟩ := restrict h' fun b => decide (b ≠ e)
    have gk : ∀ b, b ≠ e → G'.get? b = h'.get? b := fun b hb => g1 b (decide_eq_true hb)
    have ge : G'.get? e = none := g2 e (by simp)
    have old : ∀ b o, hp.get? b = some o → G'.get? b = some o := fun b o q => (gk b (Nat.ne_of_lt (Nat.lt_of_lt_of_le (Heap.lt_size q) M.new))).trans (M.keep b o q)
    have ob : ObjOk X.prog X.w (L2.upd H1 d (.xd [(f, v)])) G' d (.xd [(f, v)]) :=
      ⟨_, hns.at (fun o q => (gk d M.dne).trans q), fun f' => relO_x rv f'⟩
    have J : Inv X pins σ (L2.upd H1 d (.xd [(f, v)])) ⟨G', g, dr, tk', os⟩ := I1.laid (t' := tk') old M.dbig ob
    refine ⟨e, oe, fv, ⟨G', g, dr, tk', os⟩, _, .ref C, some d, rfl, J, fun b o q => ?_, ge, hoe, ⟨hc, hd⟩, hdat, h1, ?_, rfl, I1.bare, raises_own T.exC T.tyC, q1 d (I1.hok.fresh M.dbig)⟩
    · by_cases hb : b = e
      · have q' : G'.get? b = some o := q
        rw [hb, ge] at q'; cases q'
      · exact (gk b hb).symm.trans q
    · rw [upd_ne (Ne.symm M.dne)]
      exact I1.hok.fresh M.new
end
section
variable {X : Cx} {G : Ctx} {W : WX} {e : Expr} {m : ME} {x f : Str} {fI : Addr} {p pos pos2 : Pos} {c k : Nat}
def mRaise (c : Nat) (m : ME) : MS := bindS m fun d _ env => .exc c [d] env
/-- raise x(e) -/
theorem ds_raise (hc : X.calm = true) (T : ExT X.prog X.K X.mg (G.C c) fI f) (hF : G.F c = [f]) (hr : Room k X.A) (tk : Takes X W) (he : DE X G W e m) (gC : X.mg x = some (.ref (G.C c))) (hg : Gl X x) (hdb : (x == ("__debug__" : Str)) = false := by decide)
    (hse : starEach (e :: []) X.env = (false, eval e X.env) :: starEach [] X.env := by rfl) (hpl : (backTo pos (starEach [] X.env)).any (·.1) = false := by rfl) :
    DS X G W (.Raise (some (.Call (.Name x p) [e] [] pos)) none pos2) (mRaise c m) :=
  psImp (ps_raise hc tk (pmk_x T hr (pa_cons he pa_nil hse) gC hg hdb hse hpl)) fun Z σ H ⟨g, env, S, I, h⟩ => by
    show trE G W m σ H fun v H1 => ∃ v', [v] = [v'] ∧ ∀ d, H1 d = none → W (.ref (G.C c)) (some d) σ (L2.upd H1 d (.xd [(f, v')]))
    refine bindS_ok I h fun d o env1 v H1 S1 gr hv h => ⟨v, rfl, fun a ha => ?_⟩
    obtain ⟨S2, g2, I2, r2⟩ := hv.frz
    have ex : Ext H1 (L2.upd H1 a (.xd [(f, v)])) := Ext.upd ha
    have I3 := I2.ext (N := One a) ex fun b hb => by
      have hb : b = a := hb
      subst hb
      exact ⟨ha, _, upd_same, fun _ z => nomatch z⟩
    have gr3 : Grow S2 H1 (Or1 S2 (One a)) (L2.upd H1 a (.xd [(f, v)])) := I2.grow ex _ fun b h => .inl h
    refine h _ _ σ _ _ (g2.trans gr3) I3 ⟨rfl, a, [v], rfl, .inr rfl, ?_, ?_, .cons (r2.mono gr3) .nil⟩
    · rw [upd_same, hF]; rfl
    · rw [hF]; exact Nat.le_refl _
end
end DL

set_option Elab.async false
set_option linter.all false
set_option maxRecDepth 100000
set_option maxHeartbeats 1000000
/-! DL16: try: .. except X as error: caught = error. The caught error is held as a value. -/
namespace DL
open PySem L2
/-- an exception held as a value: its class, its dict -/
def ExV (cls : Value) (a : Addr) (d : Option Addr) : HO := .ext fun h => ∃ (oe : Obj) (vs : Array Value), h.get? a = some oe ∧ oe.cls = cls ∧ oe.dict = d ∧ oe.data = .fields vs
theorem exV_is {cls : Value} {a dd : Addr} : ExV cls a (some dd) = ExD cls a dd := rfl
section
variable {X : Cx} {pins : List (Addr × Obj)} {σ : L2.St} {H : Hp} {s : Shared}
/-- an object that is not tracked, new since the entry, no frame, no cell, no pin: tracked from now on -/
theorem Inv.track {a : Addr} {oe : Obj} {vs : Array Value} {cls : Value} {d : Option Addr} (I : Inv X pins σ H s) (n0 : X.s_0.heap.get? a = none) (np : ∀ p ∈ X.pn ++ pins, p.1 ≠ a) (ha : s.heap.get? a = some oe) (hd : oe.data = .fields vs) (hc : oe.cls = cls) (hdd : oe.dict = d)
    (na : H a = none) (nL : a ≠ X.env.locals) : Inv X pins σ (L2.upd H a (ExV cls a d)) s := by
  have ne0 : ∀ b o, X.s_0.heap.get? b = some o → b ≠ a := fun b o e z => by rw [z, n0] at e; cases e
  refine ⟨I.ok, I.os, I.bare, ⟨I.base.keep, I.base.slot, fun b o e n hx => ?_, I.base.there, fun b xs e => ?_, fun b o u e => ?_, fun b ps e => ?_⟩, I.loc, I.cell, ?_, fun x c e => ?_, fun p hp => ?_, fun b u e => ?_, I.len⟩
  · rw [upd_ne (ne0 b o e)]; exact I.base.free b o e n hx
  · have q := I.base.tups b xs e
    rw [upd_ne (ne_of_none q na)]; exact q
  · have q := I.base.frzs b o u e
    rw [upd_ne (ne_of_none q na)]; exact q
  · obtain ⟨m, q⟩ := I.base.tbls b ps e
    exact ⟨m, by rw [upd_ne (ne_of_none q na)]; exact q⟩
  · rw [upd_ne (Ne.symm nL)]; exact I.free
  · rw [upd_ne (fun z => ?_)]
    · exact I.freeC x c e
    · obtain ⟨v, o, ho, hv⟩ := I.cell x c e
      rw [z, ha] at ho
      cases ho
      rw [hd] at hv; cases hv
  · obtain ⟨e, n, ne, nf, dd⟩ := I.pin p hp
    exact ⟨e, by rw [upd_ne (np p hp)]; exact n, ne, nf, dd⟩
  · by_cases hb : b = a
    · subst hb
      rw [upd_same] at e
      cases e
      exact ⟨⟨oe, vs, ha, hc, hdd, hd⟩, ⟨oe, ha⟩, fun _ _ ⟨o, v, q, r⟩ k => ⟨o, v, k _ q, r⟩⟩
    · rw [upd_ne hb] at e
      exact (I.hok b u e).stay (fun _ _ _ q => q) (fun c q => by rw [upd_ne (ne_of_none q na)]; exact q) fun c xs q => by rw [upd_ne (ne_of_none q na)]; exact q
end
/-- what 'except x as n: y = n' wishes of an exception of the body -/
def wCa (K : PySem.W.Frag) (c : Value) (i j : Nat) (Wout : WX) (D : Ends) : WX := fun cls d σ H =>
  ∃ b, PySem.W.exmOne K cls c = some b ∧ (b = true → ∀ a, H a = none → D.nx (((σ.set i (some (.ref a))).set j (some (.ref a))).set i none) (L2.upd H a (ExV cls a d))) ∧ (b = false → Wout cls d σ H)
section
variable {X : Cx} {x n y : Str} {c : Value} {i j : Nat} {body : List Stmt} {np p1 p2 p3 pos pos' : Pos} {tb : WX → TS} {Wout : WX}
theorem ps_try_caught (hex : X.ex = []) (hs : X.stack = X.env :: X.outer) (hf : X.env.frame = some X.env.locals) (hN : X.N.Nodup) (hi : X.N[i]? = some n) (hj : X.N[j]? = some y) (hij : i ≠ j) (hln : X.env.kindOf n = some .local) (hly : X.env.kindOf y = some .local) (hc : Names X x c) (tk : Takes X Wout)
    (hdn : (n == ("__debug__" : Str)) = false) (hcn : (n == ("__classdict__" : Str)) = false)
    (hw : swapsWith (.Name n p2) (some (.Name y p1)) p3.line X.env = pure false)
    (hb : ∀ (W : WX) (pn : List (Addr × Obj)) (xe : Value → Shared → Prop), Takes (X.tr pn xe) W → PassesOwn (model X.prog X.w) X.A X.env xe → PSs (X.tr pn xe) body (tb W)) :
    PS X (.Try body [.ExceptHandler (some (.Name x np)) (some n) [.Assign [.Name y p1] (.Name n p2) p3] pos'] [] [] pos) (fun D σ H => tb (wCa X.K c i j Wout D) D σ H) := by
  refine ⟨fun pins s σ H D I h => ?_⟩
  have ok := I.ok
  have hfr : X.A.frames = some (X.env :: X.outer) := by rw [ok.frames, hs]
  have hloc : Loc X.env.scope n := .inl hln
  refine wpAny_Try_except ?_
  refine wpAny_mono ((hb (wCa X.K c i j Wout D) (X.pn ++ pins) (fun e s₁ => wpAny (model X.prog X.w) X.A (noteFrame e X.env) (fun _ s₂ => wpAny (model X.prog X.w) X.A (setFlight e none) (fun _ s₃ =>
    wpAny (model X.prog X.w) X.A (handleBy e X.env [.ExceptHandler (some (.Name x np)) (some n) [.Assign [.Name y p1] (.Name n p2) p3] pos']) (SP X pins D) X.xe s₃) X.xe s₂) X.xe s₁) (fun u s' xx => ?_) PassesOwn.looking).run [] s σ H D (I.toTry _) h) (fun f s1 hsp => ?_) (fun e s1 he => he)
  · -- the catch
    obtain ⟨a, B, sI, pins', σ', H', cls, d, rfl, J', nb, up, sky, na, os, ag, b, hb1, hyes, hno⟩ := xx
    have J : Inv X pins σ' H' sI := J'.ofTry ok
    have sky' : Sky B (X.env :: X.outer) a (Zc cls d) X.env.locals s'.heap := by rw [← hs]; exact sky
    show wpAny (model X.prog X.w) X.A (noteFrame (.ref a) X.env) _ _ _
    refine Sky.land Zc.steady hfr hf sky' fun h3 fl3 up3 => ?_
    have J3 : Inv X pins σ' H' { s' with heap := h3 } := J.landed nb fl3.1 (up.trans up3) os ag
    obtain ⟨oe3, vs3, he3, hz3, hd3⟩ := fl3.there
    have notFr : ∀ {h : Heap} {o : Obj} {vs : Array Value}, h.FunFrames B (X.env :: X.outer) → h.get? a = some o → o.data = .fields vs → a ∉ frs (X.env :: X.outer) := fun {h o vs} ff e dd hm => by
      obtain ⟨_, o', e', hnf⟩ := ff.mem hm
      rw [e] at e'; cases e'
      exact hnf _ dd
    have nfr := notFr fl3.2.2.1 he3 hd3
    have nL : a ≠ X.env.locals := fun z => nfr (List.mem_filterMap.mpr ⟨X.env, List.mem_cons_self, by rw [hf, z]⟩)
    have nF : a ∉ X.fs := fun hm => by
      obtain ⟨e, he, q⟩ := List.mem_filterMap.mp hm
      exact nfr (List.mem_filterMap.mpr ⟨e, List.mem_cons_of_mem _ he, q⟩)
    have nI : ∀ b o, sI.heap.get? b = some o → b ≠ a := fun b o e z => by
      subst z
      have := nb b o e (by rw [hs]; exact nfr)
      rw [fl3.2.1] at this; cases this
    have S3 := J3.suite he3 hd3 na nL nF
    refine wpAny_handleBy_cons (codeAny_handlers_test ?_) (by intro q; cases q)
    have LT : PySem.W.Looks (model X.prog X.w) h3 (typeOf (.ref a)) cls := fun A Q E s k q => wpAny_typeOf_ref (k _ _ he3) (by rw [hz3.1]; exact q)
    have LM := PySem.W.exm_one (M := model X.prog X.w) (J3.kIn) LT hb1
    have test : ∀ {Q : Value → Shared → Prop} {E : Value → Shared → Prop}, Q c { s' with heap := h3 } → wpAny (model X.prog X.w) (X.A.mark (some (.ref a))) (eval (.Name x np) X.env) Q E { s' with heap := h3 } := fun {Q E} q => by
      obtain ⟨hg, hdbg, hm | ⟨hm, hv, hnn⟩⟩ := hc
      · exact ld_glob (X := X.suite a ((a, oe3) :: (X.pn ++ pins))) S3 hg hm q hdbg
      · exact ld_blt (X := X.suite a ((a, oe3) :: (X.pn ++ pins))) S3 hg hm hv q hnn hdbg
    refine test (LM.here ?_)
    cases b with
    | true =>
      refine codeAny_handlers_suite_as ?_
      refine HandSPX.lands_againZ fl3 fun h4 fl4 up4 => ?_
      have J4 : Inv X pins σ' H' { s' with heap := h4 } := J.landed nb fl4.1 ((up.trans up3).trans up4) os ag
      obtain ⟨oe4, vs4, he4, hz4, hd4⟩ := fl4.there
      have S4 := J4.suite he4 hd4 na nL nF
      have li : i < σ'.length := by
        have z : σ'.length = X.N.length := J.len
        rw [z]; exact (List.getElem?_eq_some_iff.mp hi).1
      refine store_ok (X := X.suite a ((a, oe4) :: (X.pn ++ pins))) (v := .ref a) S4 hN hi hloc rfl (fun s5 S5 => ?_) (.inr hln)
      have su : PSs (X.suite a ((a, oe4) :: (X.pn ++ pins))) [.Assign [.Name y p1] (.Name n p2) p3] (tAsg (tVar i) (gName j)) :=
        pss_one (ps_set (X := X.suite a ((a, oe4) :: (X.pn ++ pins))) hN hj (.inl hly) (pe_var (X := X.suite a ((a, oe4) :: (X.pn ++ pins))) hi (.inl hln) hdn hcn) hw (.inr hly))
      refine wpAny_mono (su.run [] s5 _ H' ⟨fun σ6 H6 => σ6 = (σ'.set i (some (.ref a))).set j (some (.ref a)) ∧ H6 = H', fun _ _ => False, fun _ _ => False, fun _ _ => False⟩ S5 ⟨.ref a, by rw [List.getElem?_set_self li], rfl, rfl⟩) (fun f s6 hsp => ?_) (fun _ _ z => False.elim z)
      cases f with
      | next =>
        obtain ⟨σ6, H6, S6, rfl, rfl⟩ := hsp
        refine gone_ok (X := X.suite a ((a, oe4) :: (X.pn ++ pins))) S6 hN hi hln fun s7 S7 => ?_
        obtain ⟨e7, _, _, _, _⟩ := S7.pin (a, oe4) (List.mem_append_left _ List.mem_cons_self)
        have J7 := S7.unsuite ok
        refine ⟨_, _, Inv.track J7 ?_ (fun p hp z => ?_) e7 hd4 hz4.1 hz4.2 na nL, hyes rfl a na⟩
        · cases q : X.s_0.heap.get? a with
          | none => rfl
          | some o =>
            obtain ⟨o', q'⟩ := J.base.there a o q (fun hx => by rw [hex] at hx; cases hx)
            exact absurd rfl (nI a o' q')
        · obtain ⟨q, _⟩ := J.pin p hp
          exact nI _ _ q z
      | brk => obtain ⟨_, _, _, z⟩ := hsp; exact z.elim
      | cont => obtain ⟨_, _, _, z⟩ := hsp; exact z.elim
      | ret u => obtain ⟨_, _, _, _, _, z⟩ := hsp; exact z.elim
    | false =>
      show wpAny _ X.A (handleBy (.ref a) X.env []) _ _ _
      refine wpAny_handleBy_nil ?_
      obtain ⟨k1, k2, k3, oe, vs, T, oT, ts', he, hz, hd, h1, hr⟩ := id fl3
      unfold PySem.passOn
      refine wpAny_bind (wpAny_field he hd h1 ?_)
      rw [if_neg (show ¬ ((Value.ref T == Value.none) = true) from by simp)]
      have fin : wpAny (model X.prog X.w) X.A (setFlight (.ref a) X.env.frame) (fun _ s4 => wpAny (model X.prog X.w) X.A (throw (.ref a) : Sem Flow) (SP X pins D) X.xe s4) X.xe { s' with heap := h3 } := by
        rw [hf]
        refine HandSPX.setFlight_upZ fl3 fun h4 hh4 up4 => wpAny_throw (tk _ _ ?_)
        exact ⟨a, B, sI, pins, σ', H', cls, d, rfl, J, nb, (up.trans up3).trans up4, .inr (.inr (by rw [hs]; exact hh4)), na, os, ag, hno rfl⟩
      first
        | exact wpAny_bind (wpAny_pure (wpAny_bind fin))
        | exact wpAny_bind fin
  · cases f with
    | next =>
      obtain ⟨σ', H', J', q⟩ := hsp
      exact wpAny_execs_nil ⟨σ', H', J'.ofTry ok, q⟩
    | brk =>
      obtain ⟨σ', H', J', q⟩ := hsp
      exact ⟨σ', H', J'.ofTry ok, q⟩
    | cont =>
      obtain ⟨σ', H', J', q⟩ := hsp
      exact ⟨σ', H', J'.ofTry ok, q⟩
    | ret u =>
      obtain ⟨v, σ', H', J', r, q⟩ := hsp
      exact ⟨v, σ', H', J'.ofTry ok, r, q⟩
end
section
variable {X : Cx} {G : Ctx} {W : WX} {x n y : Str} {CS : Addr} {i j : Nat} {body : List Stmt} {np p1 p2 p3 pos pos' : Pos} {mb : MS} {hs : Nat → Option Bool}
/-- try: body; except x as n: y = n -/
def mTryC (hs : Nat → Option Bool) (i j : Nat) (body : MS) : MS := fun env => match body env with
  | .exc c fs e => match hs c with
    | some true => (match freeE e i && (freeE e j && decide (i ≠ j)) with
      | true => .nx ((e.set j (some (.exc c fs, .s))).set i none)
      | false => .bad)
    | some false => .exc c fs e
    | none => .bad
  | r => r
theorem SI.clearS {g : Gh} {σ : L2.St} {H : Hp} {env : EV} {S : Sset} {P : List (Addr × D)} {r : Option (D × Tag)} (I : SI G g σ H env S P) (h : env[i]? = some r) (hp : ∀ e, r ≠ some (e, .p)) : SI G g (σ.set i none) H (env.set i none) S P := by
  have old : ∀ {j : Nat} {e : D} {t : Tag}, (env.set i none)[j]? = some (some (e, t)) → i ≠ j ∧ env[j]? = some (some (e, t)) := fun {j e t} q => by
    rcases get_set q with ⟨_, q⟩ | q
    · cases q
    · exact q
  have at_ : ∀ {j : Nat}, i ≠ j → (σ.set i none)[j]? = σ[j]? := fun {j} hj => List.getElem?_set_ne hj
  refine ⟨by rw [List.length_set, List.length_set]; exact I.len, fun j e q => ?_, fun j e t ht q => ?_, fun j k e e' t u b ht hu q q' q1 q2 => ?_, fun j e q => ?_, fun b hb hn => ?_, I.pend, I.pun, fun p hp j e t ht q => ?_, I.fr, I.sh0, I.sh1, I.shH, I.tab, I.nt⟩
  · rw [at_ (old q).1]; exact I.shr j e (old q).2
  · rw [at_ (old q).1]; exact I.own j e t ht (old q).2
  · rw [at_ (old q).1] at q1
    rw [at_ (old q').1] at q2
    exact I.uniq j k e e' t u b ht hu (old q).2 (old q').2 q1 q2
  · obtain ⟨h1, a, h2, h3⟩ := I.pin j e (old q).2
    have := (old q).1
    rw [h1] at this
    exact ⟨h1, a, by rw [at_ this]; exact h2, h3⟩
  · obtain ⟨e, q⟩ := I.pin0 b hb hn
    refine ⟨e, ?_⟩
    have : i ≠ 0 := fun z => by subst z; rw [h] at q; injection q with q; exact hp e q
    rw [List.getElem?_set_ne this]; exact q
  · rw [at_ (old q).1]; exact I.pdis p hp j e t ht (old q).2
theorem ds_tryC (hex : X.ex = []) (hst : X.stack = X.env :: X.outer) (hf : X.env.frame = some X.env.locals) (hN : X.N.Nodup) (hi : X.N[i]? = some n) (hj : X.N[j]? = some y) (hij : i ≠ j) (hln : X.env.kindOf n = some .local) (hly : X.env.kindOf y = some .local) (hc : Names X x (.ref CS)) (tk : Takes X W)
    (hh : ∀ c b, hs c = some b → PySem.W.exmOne X.K (.ref (G.C c)) (.ref CS) = some b)
    (hb : ∀ (W : WX) (pn : List (Addr × Obj)) (xe : Value → Shared → Prop), Takes (X.tr pn xe) W → PassesOwn (model X.prog X.w) X.A X.env xe → DSs (X.tr pn xe) G W body mb)
    (hdn : (n == ("__debug__" : Str)) = false := by decide) (hcn : (n == ("__classdict__" : Str)) = false := by decide)
    (hw : swapsWith (.Name n p2) (some (.Name y p1)) p3.line X.env = pure false := by rfl) :
    DS X G W (.Try body [.ExceptHandler (some (.Name x np)) (some n) [.Assign [.Name y p1] (.Name n p2) p3] pos'] [] [] pos) (mTryC hs i j mb) :=
  psImp (ps_try_caught (tb := fun W => trS G W mb) hex hst hf hN hi hj hij hln hly hc tk hdn hcn hw hb) fun Z σ H ⟨g, env, S, I, h⟩ => by
    refine ⟨g, env, S, I, ?_⟩
    unfold mTryC at h
    cases q : mb env with
    | nx e => simp only [q] at h; exact h
    | rt d o e => simp only [q] at h; exact h
    | bk e => simp only [q] at h; exact h
    | ct e => simp only [q] at h; exact h
    | bad => simp only [q] at h; exact h
    | exc c fs e =>
      simp only [q] at h
      intro cls dd σ' H' S' gr I' er
      obtain ⟨rfl, b, vs, rfl, sb, hb1, hb2, rl⟩ := er
      cases q2 : hs c with
      | none => simp only [q2] at h; exact h.elim
      | some w =>
        refine ⟨w, hh c w q2, fun hw a na => ?_, fun hw => ?_⟩
        · subst hw
          simp only [q2] at h
          cases q3 : freeE e i && (freeE e j && decide (i ≠ j)) with
          | false => simp only [q3] at h; exact h.elim
          | true =>
            simp only [q3] at h
            obtain ⟨f1, f2⟩ := Bool.and_eq_true_iff.mp q3
            obtain ⟨f2, _⟩ := Bool.and_eq_true_iff.mp f2
            have ex : Ext H' (L2.upd H' a (ExV (.ref (G.C c)) a (some b))) := Ext.upd na
            have I2 := I'.ext (N := One a) ex fun d hd => by
              have hd : d = a := hd
              subst hd
              exact ⟨na, _, upd_same, fun _ z => nomatch z⟩
            have g2 : Grow S' H' (Or1 S' (One a)) (L2.upd H' a (ExV (.ref (G.C c)) a (some b))) := I'.grow ex _ fun b h => .inl h
            have rep : Rep G (L2.upd H' a (ExV (.ref (G.C c)) a (some b))) (Or1 S' (One a)) (.ref a) (.exc c fs) :=
              .exc (.inr rfl) (.inl sb) upd_same ((g2 b sb).2.trans hb1) hb2 (rl.mono g2)
            obtain ⟨ri, ki1, ki2⟩ := freeE_ok f1
            obtain ⟨rj, kj1, kj2⟩ := freeE_ok f2
            have I3 := I2.setS ki1 ki2 rep
            have kj1' : (e.set i (some (.exc c fs, Tag.s)))[j]? = some rj := by rw [List.getElem?_set_ne hij]; exact kj1
            have I4 := I3.setS kj1' kj2 rep
            have li : i < e.length := (List.getElem?_eq_some_iff.mp ki1).1
            have ki3 : ((e.set i (some (.exc c fs, Tag.s))).set j (some (.exc c fs, Tag.s)))[i]? = some (some (.exc c fs, Tag.s)) := by
              rw [List.getElem?_set_ne (Ne.symm hij), List.getElem?_set_self li]
            have I5 := I4.clearS ki3 fun e z => by injection z with z; injection z with _ z; cases z
            have eE : ((e.set i (some (D.exc c fs, Tag.s))).set j (some (.exc c fs, Tag.s))).set i none = (e.set j (some (.exc c fs, Tag.s))).set i none := by
              rw [List.set_comm _ _ hij, List.set_set]
            rw [eE] at I5
            exact h _ _ _ (gr.trans g2) I5
        · subst hw
          simp only [q2] at h
          exact h _ _ _ _ _ gr I' ⟨rfl, b, vs, rfl, sb, hb1, hb2, rl⟩
end
end DL

set_option Elab.async false
set_option linter.all false
set_option maxRecDepth 100000
set_option maxHeartbeats 1000000
/-! DL17: an own error held as a value: isinstance, its field. -/
namespace DL
open PySem PySem.Spec PySem.Calls PyProof.Rows PySem.W
section
variable {prog : Program} {w : World} {A : Around} {E : Value → Shared → Prop} {s : Shared} {K : Frag} {x D : Addr} {ox : Obj} {od : Option Obj}
theorem findObj_dataX {C : Addr} {name : Str} {a g : Value} (hc : (clsIn K C).isSome = true) (ha : findIn K (.ref C) name = some (some a)) (hg : specialIn K a "__get__" = some (some g)) (ht : takesIn K a = some true) : findObj K C od name = some (.bind g a) := by
  obtain ⟨cd, hc⟩ := Option.isSome_iff_exists.mp hc
  unfold findObj
  rw [hc, Option.bind_some, ha, Option.bind_some]
  simp [hg, ht]
theorem kin_classX {Q : Option Value → Shared → Prop} (hga : findIn K (.ref D) "__getattribute__" = some (some (.builtin "BaseException.__getattribute__"))) (hgt : findIn K (.ref D) "__getattr__" = some none) (hsub : subIn K (.ref D) (.type "BaseException") = some true)
    (hdct : hasDictIn K D = true) (ha : findIn K (.ref D) "__class__" = some (some (.builtin "object.__class__")))
    (hn : specialIn K (.builtin "object.__class__") "__get__" = some (some (.builtin "getset_descriptor.__get__"))) (htk : takesIn K (.builtin "object.__class__") = some true) (hm : mroIn K D (.type "object") = some true)
    (X : K.In s.heap) (I : InstAt s.heap x ox D od) (h : Q (some (.ref D)) { s with toks := s.toks + 1 }) : wpAny (model prog w) A (getAttr? (.ref x) "__class__") Q E s := by
  have hf : findObj K D od "__class__" = some (.bind (.builtin "getset_descriptor.__get__") (.builtin "object.__class__")) := findObj_dataX (by obtain ⟨cd, hc, _⟩ := any_some hdct; rw [hc]; rfl) ha hn htk
  obtain ⟨hp, g, d, t, os⟩ := s
  have L0 := I.type (M := model prog w)
  have L1 := looks_findIn (M := model prog w) X hga
  have L2 := looks_findIn (M := model prog w) X hgt
  have L3 := looks_find (M := model prog w) X I hf
  have sub : Looks (model prog w) hp (isInstance (.ref x) (.type "BaseException")) true := L0.andThen (looks_subIn X hsub)
  have hx0 : (false && onTheHeap (Value.builtin "BaseException.__getattribute__")) = false := rfl
  have hx2 : (Value.builtin "BaseException.__getattribute__" == Value.builtin "object.__getattribute__") = false := by decide +kernel
  have hx1 : (onTheHeap (Value.ref D) && Value.builtin "BaseException.__getattribute__" == Value.builtin "object.__getattribute__") = false := by rw [hx2]; rfl
  unfold getAttr? getAttrBy? getAttrBy
  refine wpAny_bind (wpAny_mkText (wpAny_bind (wpAny_attempt (wpAny_holding (wpAny_bind (L0.at (wpAny_bind (L1.at ?_))))))))
  show wpAny _ _ (if (onTheHeap (Value.ref D) && Value.builtin "BaseException.__getattribute__" == Value.builtin "object.__getattribute__") = true then _ else _) _ _ _
  rw [hx1, if_neg Bool.false_ne_true]
  unfold getAttrByItsOwn hookBefore
  refine wpAny_bind ?_
  rw [if_pos (show onTheHeap (Value.ref D) = true from rfl)]
  refine L2.at ?_
  refine wpAny_bind (wpAny_attempt (wpAny_holding ?_))
  unfold callGetattribute
  rw [hx0, if_neg Bool.false_ne_true]
  unfold boundAndCalled
  rw [PySem.F.excAttr_ValueError.ga.bind (.ref x)]
  refine wpAny_bind (wpAny_pure ?_)
  show wpAny _ _ (call (.builtin "BaseException.__getattribute__") [.ref x, .str "__class__" t]) _ _ _
  refine wpAny_call (codeAny_call_builtin PySem.F.excAttr_ValueError.ga.plain PySem.F.entry_bexc_ga ?_)
  refine @check_slot (model prog w) _ _ ⟨hp, g, d, t + 1, os⟩ "BaseException.__getattribute__" "BaseException" "__getattribute__" (.ref x) [.str "__class__" t] [] _ (by decide +kernel) (by decide +kernel) sub (PySem.F.args_bexc_ga (.ref x) (.str "__class__" t)) ?_
  unfold Builtin.«object.__getattribute__»
  refine wpAny_bind (wpAny_of_eq (a := ((Value.ref x : Value), [Value.str "__class__" t])) (by first | rfl | (simp only [slotArgs]; rfl)) ?_)
  refine wpAny_bind (wpAny_pure (wpAny_bind (L0.at (wpAny_bind (L3.at ?_)))))
  show wpAny _ _ (holding [Value.builtin "object.__class__"] (call (.builtin "getset_descriptor.__get__") [.builtin "object.__class__", .ref x, .ref D]) >>= ret) _ _ _
  refine wpAny_bind (wpAny_holding (wpAny_call (class_get (s := ⟨hp, g, d, t + 1, os⟩) (ox := ox) (od := od) X I hm ?_)))
  refine wpAny_pure ?_
  show wpAny _ _ (handedOut (.ref D)) _ _ _
  rw [handedOut_of (v := .ref D) rfl]
  first
    | exact wpAny_pure (wpAny_pure h)
    | exact wpAny_pure h
    | exact wpAny_pure (wpAny_bind (wpAny_pure (wpAny_pure h)))
theorem kitx_excX (hga : findIn K (.ref D) "__getattribute__" = some (some (.builtin "BaseException.__getattribute__"))) (hgt : findIn K (.ref D) "__getattr__" = some none) (hsub : subIn K (.ref D) (.type "BaseException") = some true) (hdct : hasDictIn K D = true) (ha : findIn K (.ref D) "__class__" = some (some (.builtin "object.__class__")))
    (hn : specialIn K (.builtin "object.__class__") "__get__" = some (some (.builtin "getset_descriptor.__get__"))) (htk : takesIn K (.builtin "object.__class__") = some true) (hm : mroIn K D (.type "object") = some true) :
    KitX K (.ref x) (.ref D) (fun h => InstAt h x ox D od) where
  ty := fun _ _ _ I => I.type
  it := fun _ _ X _ => by
    obtain ⟨cdD, hcD, _⟩ := any_some hdct
    unfold clsIn at hcD
    split at hcD
    · rename_i c' d' cd' sl' ho
      intro A' Q' E' s' k q
      unfold isType loadHead
      exact wpAny_bind (wpAny_loadPart (k _ _ (X _ _ ho)) (wpAny_pure q))
    · cases hcD
  ne := fun h tp dd its n sl X htp => by
    obtain ⟨cdD, hcD, _⟩ := any_some hdct
    refine Bool.eq_false_iff.mpr fun q => ?_
    have e : D = tp := Value.ref.inj (beq_iff_eq.mp q)
    subst e
    unfold clsIn at hcD
    split at hcD
    · rename_i c' d' cd' sl' ho
      have z := (X _ _ ho).symm.trans htp
      cases z
    · cases hcD
  ca := fun X I k => kin_classX hga hgt hsub hdct ha hn htk hm X I k
end
end DL
namespace DL
open PySem PySem.Spec PyProof.Rows L2
/-- isinstance(e, c), e a held error with a dict -/
def rIsX (K : PySem.W.Frag) : List V → Hp → VK → Prop := fun xs H Q => ∃ (a D dd : Addr) (kvs : List (Str × V)) (c : V) (cv : Value) (b : Bool), xs = [.ref a, c] ∧ H a = some (ExD (.ref D) a dd) ∧ H dd = some (.xd kvs) ∧ ExcC K D ∧ ClsV c cv ∧ PySem.W.kitOne K (.ref D) cv = some b ∧ Q (.bl b) H
theorem inst_exc {X : Cx} {pins : List (Addr × Obj)} {σ : L2.St} {H : Hp} {s : Shared} {a D dd : Addr} {kvs : List (Str × V)} (I : Inv X pins σ H s) (ha : H a = some (ExD (.ref D) a dd)) (hd : H dd = some (.xd kvs)) :
    ∃ (oe od : Obj) (mA : Str → Option Value), PySem.W.InstAt s.heap a oe D (some od) ∧ (∀ f, PySem.W.lookIn f od = some (mA f)) ∧ ∀ f, RelO (List.lookup f kvs) (mA f) := by
  obtain ⟨⟨oe, vs, hoe, hc, hdd, hdt⟩, _, _⟩ := I.hok a _ ha
  have hx : ObjOk X.prog X.w H s.heap dd (.xd kvs) := I.hok dd _ hd
  obtain ⟨mA, hns, hr⟩ := hx
  obtain ⟨od, ho, hl⟩ := lookIn_ns hns
  exact ⟨oe, od, mA, ⟨hoe, hc, by unfold PySem.W.notCls; rw [hdt] <;> rfl, by rw [hdd]; exact ho⟩, hl, hr⟩
section
variable {X : Cx}
theorem call_isX : CallR X (.builtin "isinstance") (rIsX X.K) := by
  intro pins s σ H xs us Q I r h
  obtain ⟨a, D, dd, kvs, c, cv, b, rfl, ha, hd, C, k, e, q⟩ := h
  obtain ⟨u1, u2, rfl, r1, r2⟩ := vals2 r
  have e2 := k.eq r2
  subst e2
  cases r1
  obtain ⟨oe, od, mA, J, _, _⟩ := inst_exc I ha hd
  exact PySem.W.kia_one (kitx_excX C.hg C.hk C.hs C.hd C.ha C.hn C.ht C.hm) I.kIn J e (fun z => nomatch z) fun tk => ⟨.bl b, H, I.tok tk, rfl, q⟩
/-- what the class says, so that an error's field f is read off its dict -/
structure ExF (K : PySem.W.Frag) (D : Addr) (f : Str) : Prop where
  ga : PySem.W.findIn K (.ref D) "__getattribute__" = some (some (.builtin "BaseException.__getattribute__"))
  gg : PySem.W.findIn K (.ref D) "__getattr__" = some none
  exC : PySem.W.subIn K (.ref D) (.type "BaseException") = some true
  hdC : PySem.W.hasDictIn K D = true
  noN : PySem.W.findIn K (.ref D) f = some none
/-- e.f -/
def tAttrX (K : PySem.W.Frag) (f : Str) (te : TE) : TE := fun σ H Q => te σ H fun x H1 => ∃ (a D dd : Addr) (kvs : List (Str × V)) (v : V), x = .ref a ∧ H1 a = some (ExD (.ref D) a dd) ∧ H1 dd = some (.xd kvs) ∧ List.lookup f kvs = some v ∧ ExF K D f ∧ Q v H1
theorem pe_attrX {e : Expr} {te : TE} {f : Str} {pos : Pos} (he : PE X e te) (hb : attributeBase e f X.env (eval e X.env) = eval e X.env := by rfl) : PE X (.Attribute e f pos) (tAttrX X.K f te) := by
  refine ⟨fun pins s σ H Q I h => ?_⟩
  refine attr_of hb (thn (he.run pins s σ H _ I h) fun u s1 hh => ?_)
  obtain ⟨x, H1, I1, rx, a, D, dd, kvs, v, ex, ha, hd, l, T, q⟩ := hh
  subst ex
  obtain rfl : u = Value.ref a := rx
  obtain ⟨oe, od, mA, J, hl, hr⟩ := inst_exc I1 ha hd
  obtain ⟨u, hu, ru⟩ := RelO.some_of (v := v) (o := mA f) (by rw [← l]; exact hr f)
  exact PySem.HandSPX.exc_get I1.kIn J T.ga T.gg T.exC (PySem.W.findObj_own T.hdC T.noN rfl (by rw [hl, hu])) (handed_of ru) ⟨v, H1, I1.tok _, ru, q⟩
end
section
variable {X : Cx} {G : Ctx} {W : WX} {e e2 : Expr} {pos : Pos} {H : Hp} {S : Sset} {v : V}
theorem RepB.exc {c : Nat} {fs : List D} (h : RepB G H S v (.exc c fs)) : ∃ a dd vs, v = .ref a ∧ H a = some (ExD (.ref (G.C c)) a dd) ∧ H dd = some (.xd ((G.F c).zip vs)) ∧ vs.length ≤ (G.F c).length ∧ RepL G H S vs fs := by
  rcases h with h | ⟨_, _, h⟩
  · cases h with
    | exc s1 s2 h1 h2 l r => exact ⟨_, _, _, rfl, h1, h2, l, r⟩
  · exact h.elim
def isxP (anc : Nat → List Nat) (oks : List Nat) (c : Nat) : D → RP
  | .exc k _ => match oks.contains k with | true => some (.bl ((anc k).contains c), false) | false => none
  | _ => none
/-- isinstance(e, c), e a held error -/
theorem de_isx {anc : Nat → List Nat} {oks : List Nat} {c : Nat} {oa : Opn} {px : Pos} (hi : ∀ k, oks.contains k = true → ExcC X.K (G.C k) ∧ PySem.W.kitOne X.K (.ref (G.C k)) (.ref (G.C c)) = some ((anc k).contains c)) (hg : Gl X "isinstance") (hm : X.mg "isinstance" = none) (ha : DO X G W e oa) (hc : PE X e2 (tC (.ref (G.C c))))
    (h1 : starEach (e :: e2 :: []) X.env = (false, eval e X.env) :: starEach [e2] X.env := by rfl) (h2 : starEach (e2 :: []) X.env = (false, eval e2 X.env) :: starEach [] X.env := by rfl) (hpl : (backTo pos (starEach [e2] X.env)).any (·.1) = false := by rfl) :
    DE X G W (.Call (.Name "isinstance" px) [e, e2] [] pos) (mO1 (isxP anc oks c) oa) :=
  peImp (pe_callB call_isX hg hm (by decide +kernel) (pa_cons ha.pe (pa_cons hc pa_nil h2) h1) (by decide) (by decide) h1 hpl) fun σ H Q h => tO1 (r := fun v H Q => rIsX X.K [v, .ref (G.C c)] H Q) (fun H S v x d o Q hS rx e k => by
    cases x with
    | exc n fs =>
      simp only [isxP] at e
      cases q : oks.contains n with
      | false => rw [q] at e; cases e
      | true =>
        rw [q] at e
        injection e with e; injection e with e1 e2; subst e1; subst e2
        obtain ⟨a, dd, vs, rfl, h1, h2, _, _⟩ := rx.exc
        obtain ⟨z1, z2⟩ := hi n q
        exact ⟨a, _, dd, _, _, _, _, rfl, h1, h2, z1, .own _, z2, k_bl k⟩
    | _ => cases e) h
def attrXP (idx : Nat → Option Nat) : D → RP
  | .exc c fs => match idx c with
    | some j => (fs[j]?).map fun d => (d, false)
    | none => none
  | _ => none
def FldX (K : PySem.W.Frag) (G : Ctx) (f : Str) (idx : Nat → Option Nat) : Prop := ∀ c j, idx c = some j → ExF K (G.C c) f ∧ (G.F c)[j]? = some f ∧ (G.F c).Nodup
theorem de_attrX {f : Str} {idx : Nat → Option Nat} {oa : Opn} (hf : FldX X.K G f idx) (ha : DO X G W e oa) (hb : attributeBase e f X.env (eval e X.env) = eval e X.env := by rfl) : DE X G W (.Attribute e f pos) (mO1 (attrXP idx) oa) :=
  peImp (pe_attrX ha.pe hb) fun σ H Q h => tO1 (r := fun x H1 Q => ∃ (a D dd : Addr) (kvs : List (Str × V)) (v : V), x = .ref a ∧ H1 a = some (ExD (.ref D) a dd) ∧ H1 dd = some (.xd kvs) ∧ List.lookup f kvs = some v ∧ ExF X.K D f ∧ Q v H1) (fun H S v x d o Q hS rx e k => by
    cases x with
    | exc c fs =>
      simp only [attrXP] at e
      cases q : idx c with
      | none => rw [q] at e; cases e
      | some j =>
        rw [q] at e
        cases q2 : fs[j]? with
        | none => simp [q2] at e
        | some d' =>
          simp [q2] at e
          obtain ⟨rfl, rfl⟩ := e
          obtain ⟨a, dd, vs, rfl, h1, h2, h3, h4⟩ := rx.exc
          obtain ⟨f1, f2, f3⟩ := hf c j q
          obtain ⟨v, q3, r⟩ := h4.get q2
          exact ⟨a, _, dd, _, v, rfl, h1, h2, (zip_look f3 f2).trans q3, f1, k v H (New.same r)⟩
    | _ => cases e) h
end
end DL

set_option Elab.async false
set_option linter.all false
set_option maxRecDepth 100000
set_option maxHeartbeats 1000000
/-! DL18: lambdas without a parameter, or with one that has an int as its default: made, called. -/
namespace DL
open PySem PySem.Spec PyProof.Rows PySem.W
abbrev klx_fn (qual : Str) (params : Arguments) (body : Expr) (scope : Scope) (cl : List (Str × Addr)) (dV pm cdv ct : Value) : FuncData :=
  { name := "<lambda>", qualname := qual, params, body := .expr body, scope, globals := mainGlobals, closure := cl, defaults := dV, kwdefaults := .none, doc := .none, pyModule := pm, annotations := none, code := cdv, closureTuple := ct, builtins := builtinsNs }
abbrev klx_obj (qual : Str) (params : Arguments) (body : Expr) (scope : Scope) (cl : List (Str × Addr)) (dV pm : Value) (c' : Addr) (ctv : Value) : Obj :=
  { cls := .type "function", data := .func (klx_fn qual params body scope cl dV pm (.ref c') ctv) }
section
variable {M : Model} {A : Around} {E : Value → Shared → Prop} {s : Shared} {qual : Str} {params : Arguments} {body : Expr} {scope : Scope} {env : Env} {c P : Addr} {ps : Array Value} {pos : Pos} {firstLine : Nat} {mg : Str → Option Value}
  {clos : List (Str × Addr)} {dV : Value} {Q : Value → Shared → Prop}
theorem klx_makeTail (hcl : closureFor scope env = pure clos) (hge0 : env.globals = mainGlobals) (hg : s.heap.Ns mainGlobals mg) (hcode : env.code = .ref c) (C : CodeHd s.heap c P) (hP : s.heap.get? P = some (tabObj ps)) (ht : TriplesOk ps.toList)
    (hnf : codeAmong pos ps.toList = none) (hgP : mainGlobals ≠ P) (hb : s.heap.BuiltinsAt mg P)
    (h : ∀ c' ctv h' tk, Heap.ExtBut P s.heap h' → s.heap.objs.size ≤ c' → c' < h'.objs.size → h'.CodeRec (.ref c') qual → h'.get? P = some (tabObj (ps ++ #[rawInt pos.line, rawInt pos.col, .ref c'])) →
      Q (.ref h'.objs.size) { s with heap := h'.push (klx_obj qual params body scope clos dV ((mg "__name__").getD .none) c' ctv), toks := tk }) :
    wpAny M A (makeTail "<lambda>" qual params (.expr body) scope env dV .none none pos firstLine) Q E s := by
  obtain ⟨bm, ob, hbm, hne0, _, hneP, hbo, hcls, hdict, hdata⟩ := hb
  unfold makeTail
  rw [hcl, hge0]
  refine wpAny_bind (wpAny_pure ?_)
  cases clos with
  | nil =>
    simp only [List.isEmpty_nil, if_true]
    refine wpAny_bind (wpAny_pure ?_)
    refine wpAny_bind (wpAny_functionCodeX hcode (C.code hP ht) (C.tab hP) hnf fun c' h' tk hx hge hlt _ hrec htb _ => ?_)
    have hg' := hg.extBut hx hgP
    refine wpAny_bind (wpAny_builtinsFor hg' hbm hne0 (hx _ _ hneP hbo) hcls hdict hdata ?_)
    refine wpAny_bind (wpAny_nsGet hg' ?_)
    exact wpAny_bind (wpAny_pure (wpAny_newObj_type (h c' .none h' tk hx hge hlt hrec htb.2) (by size_fits)))
  | cons q r =>
    simp only [List.isEmpty_cons, Bool.false_eq_true, if_false]
    refine wpAny_bind (wpAny_newTextTuple ?_)
    refine wpAny_bind (wpAny_functionCodeX hcode ((C.keeps fun b o e => Heap.get?_push_of_some _ e).code (Heap.get?_push_of_some _ hP) ht) ((C.keeps fun b o e => Heap.get?_push_of_some _ e).tab (Heap.get?_push_of_some _ hP)) hnf fun c' h' tk hx hge hlt _ hrec htb _ => ?_)
    have hg' := (hg.push _).extBut hx hgP
    have hx' : Heap.ExtBut P s.heap h' := fun b o hb' e => hx b o hb' (Heap.get?_push_of_some _ e)
    have hge' : s.heap.objs.size ≤ c' := Nat.le_trans (by rw [Heap.size_push]; omega) hge
    refine wpAny_bind (wpAny_builtinsFor hg' hbm hne0 (hx' _ _ hneP hbo) hcls hdict hdata ?_)
    refine wpAny_bind (wpAny_nsGet hg' ?_)
    exact wpAny_bind (wpAny_pure (wpAny_newObj_type (h c' _ h' tk hx' hge' hlt hrec htb.2) (by size_fits)))
theorem klx_makeTailHit {cv : Value} (hcl : closureFor scope env = pure clos) (hge0 : env.globals = mainGlobals) (hg : s.heap.Ns mainGlobals mg) (hcode : env.code = .ref c) (C : CodeHd s.heap c P) (hP : s.heap.get? P = some (tabObj ps)) (ht : TriplesOk ps.toList)
    (hf : codeAmong pos ps.toList = some cv) (hb : s.heap.BuiltinsAt mg P)
    (h : ∀ (ctv : Value) (h' : Heap) (tk : Tok), (∀ b o, s.heap.get? b = some o → h'.get? b = some o) → s.heap.objs.size ≤ h'.objs.size →
      Q (.ref h'.objs.size) { s with heap := h'.push { cls := .type "function", data := .func (klx_fn qual params body scope clos dV ((mg "__name__").getD .none) cv ctv) }, toks := tk }) :
    wpAny M A (makeTail "<lambda>" qual params (.expr body) scope env dV .none none pos firstLine) Q E s := by
  obtain ⟨bm, ob, hbm, hne0, _, hneP, hbo, hcls, hdict, hdata⟩ := hb
  unfold makeTail
  rw [hcl, hge0]
  refine wpAny_bind (wpAny_pure ?_)
  cases clos with
  | nil =>
    simp only [List.isEmpty_nil, if_true]
    refine wpAny_bind (wpAny_pure ?_)
    refine wpAny_bind (wpAny_functionCode_hit hcode (C.code hP ht) hf ?_)
    refine wpAny_bind (wpAny_builtinsFor hg hbm hne0 hbo hcls hdict hdata ?_)
    refine wpAny_bind (wpAny_nsGet hg ?_)
    exact wpAny_bind (wpAny_pure (wpAny_newObj_type (h .none s.heap s.toks (fun _ _ e => e) (Nat.le_refl _)) (by size_fits)))
  | cons q r =>
    simp only [List.isEmpty_cons, Bool.false_eq_true, if_false]
    refine wpAny_bind (wpAny_newTextTuple ?_)
    refine wpAny_bind (wpAny_functionCode_hit hcode ((C.keeps fun b o e => Heap.get?_push_of_some _ e).code (Heap.get?_push_of_some _ hP) ht) hf ?_)
    refine wpAny_bind (wpAny_builtinsFor (hg.push _) hbm hne0 (Heap.get?_push_of_some _ hbo) hcls hdict hdata ?_)
    refine wpAny_bind (wpAny_nsGet (hg.push _) ?_)
    have hsz : ∀ oT : Obj, s.heap.objs.size ≤ (s.heap.push oT).objs.size := fun oT => by rw [Heap.size_push]; omega
    exact wpAny_bind (wpAny_pure (wpAny_newObj_type (h _ _ s.toks (fun b o e => Heap.get?_push_of_some _ e) (hsz _)) (by size_fits)))
end
end DL
namespace DL
open PySem PySem.Spec PyProof.Rows L2 LamX
/-- the tuple of defaults -/
def DefAt (h : Heap) (H : Hp) (fr : List Addr) (dV : Value) : Option Int → Prop
  | none => dV = .none
  | some i => ∃ (T : Addr) (t : Tok), dV = .ref T ∧ h.get? T = some { cls := .type "tuple", data := .seq #[.int i t] } ∧ H T = none ∧ T ∉ fr
/-- the defaults of the text -/
def DefsOf (params : Arguments) (env : Env) : Option Int → Prop
  | none => defaultsOf params env = ([], [])
  | some i => ∃ j p, defaultsOf params env = ([eval (.Constant (.int i) j p) env], [])
section
variable {X : Cx} {pins : List (Addr × Obj)} {σ : L2.St} {H : Hp} {s : Shared}
theorem lam_tail {T : List (Addr × Str)} {c P : Addr} {params : Arguments} {body : Expr} {scope : Scope} {pos : Pos} {firstLine : Nat} {dV : Value} {io : Option Int} {E : Value → Shared → Prop} {Q : Value → Shared → Prop} (I : Inv X pins σ H s) (TB : TabB X.base X.mg c P) (hcode : X.env.code = .ref c)
    (hm : (P, X.env.qual ++ "<lambda>") ∈ T) (hu : ∀ p ∈ T, p.1 = P → p.2 = X.env.qual ++ "<lambda>") (hT : Tabs T H) (hD : DefAt s.heap H (frs X.stack) dV io) (hfree : ∀ y ∈ scope.names, y.2 = .free → ∃ c, X.env.cells.lookup y.1 = some c)
    (h : ∀ (f c' : Addr) (pm ctv : Value) (H1 : Hp) (s' : Shared), Inv X pins σ H1 s' → Ext1 H H1 → Tabs T H1 → DefAt s'.heap H1 (frs X.stack) dV io →
      s'.heap.get? f = some (klx_obj (X.env.qual ++ "<lambda>") params body scope (cloFrom X.env.cells scope.names []) dV pm c' ctv) → H1 f = none → f ∉ frs X.stack → H1 c' = some (CodeO c' (X.env.qual ++ "<lambda>")) → Q (.ref f) s') :
    wpAny (model X.prog X.w) X.A (makeTail "<lambda>" (X.env.qual ++ "<lambda>") params (.expr body) scope X.env dV .none none pos firstLine) Q E s := by
  obtain ⟨ps, hP, ht, ha⟩ := hT _ hm
  have bP : s.heap.BuiltinsAt X.mg P := TB.bm.keeps I.bk
  have hP' : s.heap.get? P = some { cls := .none, data := .fields ps } := I.hok P _ hP
  have nofr : ∀ f, s.heap.objs.size ≤ f → f ∉ frs X.stack := fun f hf z => by
    rcases List.mem_cons.mp (I.stkSub _ z) with e | e
    · have h1 := I.lt
      rw [← e] at h1
      exact Nat.lt_irrefl _ (Nat.lt_of_lt_of_le h1 hf)
    · exact I.nofs hf e
  have keepD : ∀ {h' : Heap} {H1 : Hp}, (∀ b o, b ≠ P → s.heap.get? b = some o → h'.get? b = some o) → (∀ b, b ≠ P → b < s.heap.objs.size → H b = none → H1 b = none) → DefAt h' H1 (frs X.stack) dV io := fun {h' H1} k kn => by
    cases io with
    | none => exact hD
    | some i =>
      obtain ⟨T, t, e1, e2, e3, e4⟩ := hD
      have nP : T ≠ P := fun z => by rw [z, hP'] at e2; cases e2
      exact ⟨T, t, e1, k _ _ nP e2, kn _ nP (Heap.lt_size e2) e3, e4⟩
  cases hc : codeAmong pos ps.toList with
  | none =>
    refine klx_makeTail (mg := X.mg) (c := c) (P := P) (ps := ps) (closure_ok hfree) I.ok.glob (I.mod.glob.keeps I.bk) hcode (TB.code.keeps I.bk) hP' ht hc TB.gP bP fun c' ctv h' tk hx hge hlt hrec htb => ?_
    obtain ⟨c2, oc, vs, t, e2, hoc, hd, hv⟩ := hrec
    cases e2
    have hsz : s.heap.objs.size ≤ h'.objs.size := Nat.le_trans hge (Nat.le_of_lt hlt)
    have nC : H c' = none := I.hok.fresh hge
    have kk : ∀ b o, b ≠ P → s.heap.get? b = some o → (h'.push (klx_obj (X.env.qual ++ "<lambda>") params body scope (cloFrom X.env.cells scope.names []) dV ((X.mg "__name__").getD .none) c' ctv)).get? b = some o := fun b o hb e => Heap.get?_push_of_some _ (hx b o hb e)
    have I1 := inv_table (t' := tk) (more := #[rawInt pos.line, rawInt pos.col, .ref c']) (h' := h'.push (klx_obj (X.env.qual ++ "<lambda>") params body scope (cloFrom X.env.cells scope.names []) dV ((X.mg "__name__").getD .none) c' ctv)) I hP
      kk (Heap.get?_push_of_some _ htb) hge ⟨oc, vs, t, Heap.get?_push_of_some _ hoc, hd, hv⟩
    have hE : ExtN H (L2.upd (L2.upd H P (.tbl (ps ++ #[rawInt pos.line, rawInt pos.col, .ref c']))) c' (CodeO c' (X.env.qual ++ "<lambda>"))) := fun b o e n => by
      rw [upd_ne (ne_of_none e nC), upd_ne (fun z => n ps (Option.some.inj (e.symm.trans (by rw [z]; exact hP))))]
      exact e
    have hE1 : Ext1 H (L2.upd (L2.upd H P (.tbl (ps ++ #[rawInt pos.line, rawInt pos.col, .ref c']))) c' (CodeO c' (X.env.qual ++ "<lambda>"))) := fun b o e => by
      by_cases hb : b = P
      · subst hb
        rw [hP] at e; injection e with e; subst e
        exact .inr ⟨⟨ps, rfl⟩, _, by rw [upd_ne (ne_of_none hP nC), upd_same]⟩
      · exact .inl (by rw [upd_ne (ne_of_none e nC), upd_ne hb]; exact e)
    have eL : (ps ++ #[rawInt pos.line, rawInt pos.col, .ref c']).toList = ps.toList ++ [rawInt pos.line, rawInt pos.col, .ref c'] := by simp
    refine h h'.objs.size c' ((X.mg "__name__").getD .none) ctv _ _ I1 hE1 (fun p hp => ?_) (keepD kk fun b hb hlt' hn => ?_) (Heap.get?_push_size _ rfl) ?_ (nofr _ hsz) upd_same
    · by_cases hb : p.1 = P
      · rw [hu p hp hb, hb]
        refine ⟨_, by rw [upd_ne (ne_of_none hP nC), upd_same], by rw [eL]; exact PySem.TriplesOk_snoc _ _ _ _ ht, fun p' cv hcv => ?_⟩
        rw [eL] at hcv
        rcases among_app _ ht hcv with z | z
        · obtain ⟨c0, e1, e2⟩ := ha p' cv z
          exact ⟨c0, e1, hE _ _ e2 codeO_ne⟩
        · exact ⟨c', z, upd_same⟩
      · obtain ⟨ps', a1, a2, a3⟩ := hT p hp
        refine ⟨ps', by rw [upd_ne (ne_of_none a1 nC), upd_ne hb]; exact a1, a2, fun p' cv hcv => ?_⟩
        obtain ⟨c0, e1, e2⟩ := a3 p' cv hcv
        exact ⟨c0, e1, hE _ _ e2 codeO_ne⟩
    · rw [upd_ne (show b ≠ c' from fun z => by subst z; exact Nat.lt_irrefl _ (Nat.lt_of_lt_of_le hlt' hge)), upd_ne hb]
      exact hn
    · have n1 : h'.objs.size ≠ c' := Nat.ne_of_gt hlt
      have n2 : h'.objs.size ≠ P := Nat.ne_of_gt (Nat.lt_of_lt_of_le (Heap.lt_size hP') hsz)
      rw [upd_ne n1, upd_ne n2]
      exact I.hok.fresh hsz
  | some cv =>
    obtain ⟨c', e, hco⟩ := ha pos cv hc
    subst e
    refine klx_makeTailHit (mg := X.mg) (c := c) (P := P) (ps := ps) (closure_ok hfree) I.ok.glob (I.mod.glob.keeps I.bk) hcode (TB.code.keeps I.bk) hP' ht hc bP fun ctv h' tk hx hsz => ?_
    have I1 : Inv X pins σ H { s with heap := h'.push (klx_obj (X.env.qual ++ "<lambda>") params body scope (cloFrom X.env.cells scope.names []) dV ((X.mg "__name__").getD .none) c' ctv), toks := tk } := I.kept fun b o e => Heap.get?_push_of_some _ (hx b o e)
    exact h h'.objs.size c' ((X.mg "__name__").getD .none) ctv H _ I1 Ext.rfl'.one hT (keepD (fun b o _ e => Heap.get?_push_of_some _ (hx b o e)) fun _ _ _ e => e) (Heap.get?_push_size _ rfl) (I.hok.fresh hsz) (nofr _ hsz) hco
theorem lam_make3 {T : List (Addr × Str)} {c P : Addr} {params : Arguments} {body : Expr} {scope : Scope} {pos : Pos} {io : Option Int} {E : Value → Shared → Prop} {Q : Value → Shared → Prop} (I : Inv X pins σ H s) (TB : TabB X.base X.mg c P) (hcode : X.env.code = .ref c)
    (hm : (P, X.env.qual ++ "<lambda>") ∈ T) (hu : ∀ p ∈ T, p.1 = P → p.2 = X.env.qual ++ "<lambda>") (hT : Tabs T H) (hdef : DefsOf params X.env io) (hfree : ∀ y ∈ scope.names, y.2 = .free → ∃ c, X.env.cells.lookup y.1 = some c)
    (h : ∀ (f c' : Addr) (dV pm ctv : Value) (H1 : Hp) (s' : Shared), Inv X pins σ H1 s' → Ext1 H H1 → Tabs T H1 → DefAt s'.heap H1 (frs X.stack) dV io →
      s'.heap.get? f = some (klx_obj (X.env.qual ++ "<lambda>") params body scope (cloFrom X.env.cells scope.names []) dV pm c' ctv) → H1 f = none → f ∉ frs X.stack → H1 c' = some (CodeO c' (X.env.qual ++ "<lambda>")) → Q (.ref f) s') :
    wpAny (model X.prog X.w) X.A (eval (.Lambda params body scope pos) X.env) Q E s := by
  rw [arm_eval_Lambda]
  cases io with
  | none =>
    have hdef : defaultsOf params X.env = ([], []) := hdef
    rw [hdef]
    show wpAny _ _ (do let dv ← evalAll []; let kdv ← holding dv (evalAllOpt []); makeFunction "<lambda>" (X.env.qual ++ "<lambda>") params (.expr body) scope X.env dv kdv [] pos pos.line) Q E s
    refine wpAny_bind (wpAny_pure (wpAny_bind (wpAny_holding (wpAny_pure ?_))))
    rw [makeFunction_eq]
    simp only [List.zip_nil_right, List.filterMap_nil, List.isEmpty_nil, if_true, pure_bind]
    exact lam_tail (io := none) I TB hcode hm hu hT rfl hfree fun f c' pm ctv H1 s' a b c d e f' g' h' => h f c' .none pm ctv H1 s' a b c d e f' g' h'
  | some i =>
    obtain ⟨j, p, hdef⟩ := hdef
    rw [hdef]
    show wpAny _ _ (do let dv ← evalAll [eval (.Constant (.int i) j p) X.env]; let kdv ← holding dv (evalAllOpt []); makeFunction "<lambda>" (X.env.qual ++ "<lambda>") params (.expr body) scope X.env dv kdv [] pos pos.line) Q E s
    refine wpAny_bind (wpAny_evalAll_cons ?_)
    obtain ⟨hp, g, d, t, os⟩ := s
    refine wpAny_Constant_int ?_
    refine wpAny_evalAll_nil ?_
    refine wpAny_bind (wpAny_holding (wpAny_pure ?_))
    rw [makeFunction_eq]
    simp only [List.zip_nil_right, List.filterMap_nil, List.isEmpty_nil, List.isEmpty_cons, if_true, pure_bind, Bool.false_eq_true, if_false]
    refine wpAny_bind (wpAny_newTextTuple ?_)
    have k : ∀ b o, hp.get? b = some o → (hp.push { cls := .type "tuple", data := .seq #[.int i t] }).get? b = some o := fun b o e => Heap.get?_push_of_some _ e
    have I2 : Inv X pins σ H ⟨hp.push { cls := .type "tuple", data := .seq #[.int i t] }, g, d, t + 1, os⟩ := I.kept k
    have nofr : hp.objs.size ∉ frs X.stack := fun z => by
      rcases List.mem_cons.mp (I.stkSub _ z) with e | e
      · have h1 := I.lt
        rw [← e] at h1
        exact Nat.lt_irrefl _ h1
      · exact I.nofs (Nat.le_refl _) e
    exact lam_tail (io := some i) I2 TB hcode hm hu hT ⟨hp.objs.size, t, rfl, Heap.get?_push_size _ rfl, I.hok.fresh (Nat.le_refl _), nofr⟩ hfree fun f c' pm ctv H1 s' a b c d e f' g' h' => h f c' _ pm ctv H1 s' a b c d e f' g' h'
end
end DL

set_option Elab.async false
set_option linter.all false
set_option maxRecDepth 100000
set_option maxHeartbeats 1000000
/-! DL19: a lambda called by the def that got it; f(lambda: ..). -/
namespace DL
open PySem PySem.Spec PyProof.Rows L2 LamX
/-- a lambda's names: captured ones, globals, parameters that no name of the maker's is -/
structure LamSX (N : List Str) (sc scope : Scope) : Prop where
  kind : scope.kind = .function
  co : scope.isCoroutine = false
  gen : scope.isGenerator = false
  own : ∀ y ∈ scope.names, y.2 ≠ .cell ∧ (y.2 = .local → y.1 ∉ N)
  free : ∀ y ∈ scope.names, y.2 = .free → sc.names.lookup y.1 = some .cell ∨ sc.names.lookup y.1 = some .free
theorem LamSX.has {X : Cx} {scope : Scope} (L : LamSX X.N X.env.scope scope) (ok : X.Ok) : ∀ y ∈ scope.names, y.2 = .free → ∃ c, X.env.cells.lookup y.1 = some c := fun y hy e => by
  rcases L.free y hy e with k | k
  · exact ok.has _ (.inl k)
  · exact ok.has _ (.inr k)
section
variable {X : Cx} {pins : List (Addr × Obj)} {σ : L2.St} {H HZ : Hp} {s s1 : Shared}
theorem lam_start3 {A : Around} {outer : List Env} {E : XK} {scope : Scope} {f c' : Addr} {h₁ : Heap} {tk : Nat} {mm : Str → Option Value} (I : Inv X pins σ H s) (L : LamSX X.N X.env.scope scope) (e0 : Env0 X.prog X.w X.K X.mg X.base A outer s1 HZ) (hd : A.handled = none)
    (un : Un (frs X.stack) [] H HZ s.heap s1.heap) (hns : h₁.Ns s1.heap.objs.size mm) (kp : ∀ b o, s1.heap.get? b = some o → h₁.get? b = some o) :
    Inv (lamCx X A outer s1 HZ E scope f c') [] σ HZ { s1 with heap := h₁, toks := tk } := by
  have hfree := L.has I.ok
  have cm : ∀ {y c}, (cloFrom X.env.cells scope.names []).lookup y = some c → X.env.cells.lookup y = some c := fun {y c} e => by
    rcases cloFrom_mem (PySem.mem_of_lookup e) with hm | ⟨h1, h2⟩
    · cases hm
    · obtain ⟨c1, hc⟩ := hfree _ h1 rfl
      have hc : X.env.cells.lookup y = some c1 := hc
      have e2 : c = c1 := by
        rw [h2, hc] <;> rfl
      rw [e2]
      exact hc
  have look : ∀ {y}, scope.names.lookup y = some .free → ∃ c, (cloFrom X.env.cells scope.names []).lookup y = some c := fun {y} hl => by
    have hy : (y, NameKind.free) ∈ scope.names := PySem.mem_of_lookup hl
    exact mem_lookup (cloFrom_has (cells := X.env.cells) (acc := []) hy)
  have cellK : ∀ {c : Addr} {v : Option Value}, H c = none → s.heap.IsCell c v → h₁.IsCell c v := fun {c v} n ⟨o, ho, hd⟩ => by
    obtain ⟨sl, q⟩ := un.any ho n (by simp)
    exact ⟨_, kp _ _ q, hd⟩
  have noA : ∀ b : Addr, b ∉ (lamCx X A outer s1 HZ E scope f c').ex := fun b z => absurd (show b ∈ ([] : List Addr) from z) (by simp)
  refine ⟨⟨e0.mod, L.kind, rfl, rfl, Nat.le_refl _, fun y z c e1 e2 => I.ok.inj y z c (cm e1) (cm e2), fun y hy => ?_, fun y c z _ => ?_, fun _ => hd, Around.frames_deeper e0.frames, .inr ⟨rfl, rfl⟩, fun b z => absurd z (noA b), e0.bs, e0.bsz, fun b _ _ => noA b,
      fun b z => absurd z (noA b), e0.funs, e0.frf⟩,
    rfl, e0.bare, Un.kept kp, ⟨_, hns, fun i y v e1 e2 e3 => ?_⟩, fun y c e => ?_, e0.hok.fresh (Nat.le_refl _), fun y c e => ?_, fun q hq => absurd (show q ∈ ([] : List (Addr × Obj)) ++ [] from hq) (by simp), e0.hok.kept kp, I.len⟩
  · have hy : scope.names.lookup y = some .cell ∨ scope.names.lookup y = some .free := hy
    rcases hy with hy | hy
    · exact absurd rfl (L.own _ (PySem.mem_of_lookup hy)).1
    · exact look hy
  · have z : false = true := z
    cases z
  · have e3 : Vis scope y := e3
    rcases e3 with k | k | k
    · exact absurd (List.mem_of_getElem? e1) ((L.own _ (PySem.mem_of_lookup k)).2 rfl)
    · exact absurd rfl (L.own _ (PySem.mem_of_lookup k)).1
    · obtain ⟨m, hn, hl⟩ := I.loc
      have hvis : Vis X.env.scope y := (L.free _ (PySem.mem_of_lookup k) rfl).elim (fun k => .inr (.inl k)) (fun k => .inr (.inr k))
      obtain ⟨w', r, q⟩ := hl i y v e1 e2 hvis
      obtain ⟨c2, h2⟩ := look k
      refine ⟨w', r, .inr ⟨.inr k, c2, h2, ?_⟩⟩
      have c1 := cm h2
      rcases q with ⟨k', _⟩ | ⟨_, c3, e', z⟩
      · have k' : X.env.scope.names.lookup y = some .local := k'
        rcases L.free _ (PySem.mem_of_lookup k) rfl with k2 | k2 <;> rw [show X.env.scope.names.lookup y = _ from k2] at k' <;> cases k'
      · rw [c1] at e'
        cases e'
        exact cellK (I.freeC y _ c1) z
  · obtain ⟨w', z⟩ := I.cell y c (cm e)
    exact ⟨w', cellK (I.freeC y c (cm e)) z⟩
  · obtain ⟨v, o, ho, hd⟩ := I.cell y c (cm e)
    exact un.free c o ho (I.freeC y c (cm e)) (by simp)
/-- the parameters of the text are bound: none, or the default -/
def BindsL (params : Arguments) (body : Expr) (scope : Scope) (io : Option Int) : Prop := ∀ (s : Shared) (q : Str) (cl : List (Str × Addr)) (dV pm cdv ct : Value),
  (match io with | none => dV = .none | some i => ∃ (T : Addr) (t : Tok), dV = .ref T ∧ s.heap.get? T = some { cls := .type "tuple", data := .seq #[.int i t] }) →
  ∃ bs : List (Str × Value), BindsTo s (klx_fn q params body scope cl dV pm cdv ct) ⟨[], []⟩ bs ∧ ∀ y ∈ bs, scope.names.lookup y.1 = some .local
/-- the lambda at f is run from any state behind s -/
def Runs (X : Cx) (σ : L2.St) (f c' : Addr) (q : Str) (k : Nat) (s : Shared) (H : Hp) (tb : XK → TE) : Prop :=
  ∀ (A : Around) (outer : List Env) (s1 : Shared) (HZ : Hp) (Q : VK) (E : XK), Room (k + 1) A → Env0 X.prog X.w X.K X.mg X.base A outer s1 HZ → Un (frs X.stack) [] H HZ s.heap s1.heap → HZ c' = some (CodeO c' q) → tb E σ HZ Q →
    codeAny (model X.prog X.w) A (.call (.ref f) ⟨[], []⟩) (CR (L2.CX X.prog X.w) outer X.prog X.w HZ s1 Q E) s1
theorem lam_runs {f c' : Addr} {dV pm ctv : Value} {params : Arguments} {body : Expr} {scope : Scope} {io : Option Int} {k : Nat} {tb : XK → TE} (I : Inv X pins σ H s) (L : LamSX X.N X.env.scope scope) (hD : DefAt s.heap H (frs X.stack) dV io)
    (hf : s.heap.get? f = some (klx_obj (X.env.qual ++ "<lambda>") params body scope (cloFrom X.env.cells scope.names []) dV pm c' ctv)) (hfn : H f = none) (hfr : f ∉ frs X.stack) (hbind : BindsL params body scope io)
    (hbody : ∀ (A : Around) (outer : List Env) (s : Shared) (H : Hp) (E : XK), Room k (A.deeper (lamEnv X scope s.heap.objs.size f c')) → PE (lamCx X A outer s H E scope f c') body (tb E)) :
    Runs X σ f c' (X.env.qual ++ "<lambda>") k s H tb := fun A outer s1 HZ Q E hr e0 un hc ht => by
  have of1 : s1.heap.get? f = some (klx_obj (X.env.qual ++ "<lambda>") params body scope (cloFrom X.env.cells scope.names []) dV pm c' ctv) := un.keep f _ hf hfn hfr (fun z => nomatch z)
  obtain ⟨⟨oc, vs, t, hoc, hdc, hvc⟩, _, _⟩ := e0.hok c' _ hc
  refine PySem.W.kla_callFunE hr.depth of1 rfl L.co L.gen rfl ⟨c', oc, vs, t, rfl, hoc, hdc, hvc⟩ ?_
  obtain ⟨bs, hbs, hloc⟩ := hbind s1 (X.env.qual ++ "<lambda>") (cloFrom X.env.cells scope.names []) dV pm (.ref c') ctv (by
    cases io with
    | none => exact hD
    | some i =>
      obtain ⟨T, t, e1, e2, e3, e4⟩ := hD
      exact ⟨T, t, e1, un.keep T _ e2 e3 e4 (fun z => nomatch z)⟩)
  refine hbs _ _ _ _ ?_
  have lim : s1.heap.NoLimit := e0.mod.nolimit.keeps fun b o e => (e0.bs b o e).1
  refine wpAny_newFunctionEnv (fun y hy => (L.own y hy).1) hloc (fun h₁ hns hsb => ⟨lim.fresh _ hsb, ?_⟩) L.kind
  show codeAny _ _ (.expr body (lamEnv X scope s1.heap.objs.size f c')) _ _
  have kp : ∀ b o, s1.heap.get? b = some o → h₁.get? b = some o := fun b o e => hsb.extBut b o (Nat.ne_of_lt (Heap.lt_size e)) (Heap.get?_push_of_some _ e)
  have J : Inv (lamCx X A outer s1 HZ E scope f c') [] σ HZ { s1 with heap := h₁, toks := s1.toks + bs.length } := lam_start3 I L e0 hr.hd un hns kp
  refine PySem.W.kla_codeExpr (wpAny_mono ((hbody _ _ s1 HZ E (hr.deeper _)).run [] _ _ HZ Q J ht) (fun v s' hq => ?_) fun e s' hq => hq)
  obtain ⟨w', H', J', rv, q⟩ := hq
  exact ⟨w', H', J'.os, J'.bare, J'.base, J'.hok, rv, q⟩
end
end DL
namespace DL
open PySem PySem.Spec PyProof.Rows L2 LamX
/-- the shared slots alone -/
def shOnly (env : EV) : EV := env.map fun r => match r with
  | some (d, .s) => some (d, .s)
  | _ => none
theorem shOnly_get {env : EV} {i : Nat} {d : D} {t : Tag} (h : (shOnly env)[i]? = some (some (d, t))) : t = .s ∧ env[i]? = some (some (d, .s)) := by
  unfold shOnly at h
  rw [List.getElem?_map] at h
  cases q : env[i]? with
  | none => rw [q] at h; cases h
  | some r =>
    rw [q] at h
    injection h with h
    cases r with
    | none => cases h
    | some dt =>
      obtain ⟨d', t'⟩ := dt
      cases t' with
      | s => injection h with h; injection h with h1 h2; subst h1; subst h2; exact ⟨rfl, rfl⟩
      | o => cases h
      | p => cases h
def toRC : RE → RC
  | .ok d o _ => .ok d o none
  | .exc c fs _ => .exc c fs none
  | .bad => .bad
open Classical in
/-- ask(), ask the thunk in slot 0 -/
noncomputable def mAsk (f : Addr) (H1 : Hp) (S1 : Sset) (r : RC) : ME := fun env =>
  if env[0]? = some (some (.thk f H1 S1, .s)) then (match r with
    | .ok d _ _ => .ok d false env
    | .exc c fs _ => .exc c fs env
    | .bad => .bad) else .bad
section
variable {G : Ctx} {g : Gh} {σ : L2.St} {H H1 : Hp} {env : EV} {S : Sset} {P : List (Addr × D)} {a : Addr}
/-- tables grow -/
theorem SI.tabN (I : SI G g σ H env S P) (e : Ext1 H H1) (t : Tabs G.T H1) : SI G g σ H1 env S P ∧ Grow S H S H1 := by
  have gr : Grow S H S H1 := I.grow1 e S fun _ h => h
  have ow : ∀ b d, Own G H S b d → Own G H1 S b d := fun b d ⟨h1, h2⟩ => by
    obtain ⟨o, ho⟩ := h2.some
    exact ⟨h1, h2.mono gr (((e b o ho).nt fun ps z => h2.nt ps (ho.trans z)).trans ho.symm)⟩
  refine ⟨⟨I.len, fun i d h => ?_, fun i d u hu h => ?_, I.uniq, I.pin, I.pin0, fun p hp => ⟨ow _ _ (I.pend p hp).1, (I.pend p hp).2⟩, I.pun, I.pdis, fun b o h1 h2 => (I.fr b o h1 h2).ext e, I.sh0, I.sh1, fun b hb => ?_, t, fun b hb ps z => ?_⟩, gr⟩
  · obtain ⟨v, h1, h2⟩ := I.shr i d h
    exact ⟨v, h1, h2.mono gr⟩
  · obtain ⟨a, h1, h2, h3⟩ := I.own i d u hu h
    exact ⟨a, h1, ow _ _ h2, h3⟩
  · obtain ⟨o, ho⟩ := I.shH b hb
    exact ⟨o, (gr b hb).2.trans ho⟩
  · rw [(gr b hb).2] at z
    exact I.nt b hb ps z
/-- a code object is shared from now on -/
theorem SI.addExt {φ} (I : SI G g σ H env S P) (h : H a = some (.ext φ)) : SI G g σ H env (Or1 S (One a)) P := by
  have ow : ∀ {b : Addr} {e : D}, Own G H S b e → Own G H (Or1 S (One a)) b e := fun {b e} q => own_one (fun z => q.2.ne_ext φ (z ▸ h)) q
  refine ⟨I.len, fun i d q => ?_, fun i d u hu q => ?_, I.uniq, I.pin, I.pin0, fun p hp => ⟨ow (I.pend p hp).1, (I.pend p hp).2⟩, I.pun, I.pdis, I.fr, fun b hb => .inl (I.sh0 b hb), fun b hb => ?_, fun b hb => ?_, I.tab, fun b hb ps z => ?_⟩
  · obtain ⟨v, h1, h2⟩ := I.shr i d q
    exact ⟨v, h1, h2.mono (grow_one S H)⟩
  · obtain ⟨b, h1, h2, h3⟩ := I.own i d u hu q
    exact ⟨b, h1, ow h2, h3⟩
  · rcases hb with hb | hb
    · exact I.sh1 b hb
    · have hb : b = a := hb
      subst hb; exact I.sh1_ext h
  · rcases hb with hb | hb
    · exact I.shH b hb
    · have hb : b = a := hb
      subst hb; exact ⟨_, h⟩
  · rcases hb with hb | hb
    · exact I.nt b hb ps z
    · have hb : b = a := hb
      subst hb; rw [h] at z; cases z
/-- the maker's shared slots, seen from a callee -/
theorem SI.seen {gZ : Gh} {σZ : L2.St} {HZ : Hp} {envZ : EV} {SZ : Sset} {PZ : List (Addr × D)} (I : SI G g σ H env S P) (gr : Grow S H SZ HZ) (J : SI G gZ σZ HZ envZ SZ PZ) : SI G ⟨HZ, SZ, none, false⟩ σ HZ (shOnly env) SZ [] := by
  refine ⟨by unfold shOnly; rw [List.length_map]; exact I.len, fun i d q => ?_, fun i d t ht q => absurd (shOnly_get q).1 ht, fun i j d e t u a ht _ q => absurd (shOnly_get q).1 ht, fun i d q => (nomatch (shOnly_get q).1), fun a h => (nomatch h), fun p hp => (nomatch hp), List.nodup_nil, fun p hp => (nomatch hp), fun a o h _ => .inl h, fun a h => h, fun a h => .inl h, J.shH, J.tab, J.nt⟩
  obtain ⟨v, h1, h2⟩ := I.shr i d (shOnly_get q).2
  exact ⟨v, h1, h2.mono gr⟩
end
section
variable {X : Cx} {G : Ctx} {W : WX}
/-- ask(), in the def that got the lambda -/
theorem pe_act3 {CXg : CXT} {Eg : XK} {Ng : List Str} {qg : Str} {sg : Scope} {gg f c' : Addr} {cdg : Value} {k : Nat} {a q : Str} {pn : List (Addr × Obj)} {xe : Value → Shared → Prop} {tb : XK → TE} {p1 p2 : Pos} {σ : L2.St} {s : Shared} {H : Hp}
    (hfa : PySem.W.FnAt f s.heap) (hfn : H f = none) (hfr : f ∉ frs X.stack) (hru : Runs X σ f c' q k s H tb)
    (tk : Takes ((cxOf CXg X.prog X.w X.K X.mg X.base Ng qg sg gg cdg X.A X.stack s H Eg).tr pn xe) W) (hr : Room (k + 1) (X.A.deeper (envOfC qg sg s.heap.objs.size gg cdg)))
    (hN : Ng[0]? = some a) (hv : Vis sg a) (hd : (a == ("__debug__" : Str)) = false) (hcd : (a == ("__classdict__" : Str)) = false) :
    PE ((cxOf CXg X.prog X.w X.K X.mg X.base Ng qg sg gg cdg X.A X.stack s H Eg).tr pn xe) (.Call (.Name a p1) [] [] p2)
      (fun σZ HZ Q => σZ[0]? = some (some (.ref f)) ∧ HZ c' = some (CodeO c' q) ∧ tb (fun cls dd H => W cls dd σZ H) σ HZ Q) := by
  refine ⟨fun pinsZ sZ σZ HZ Q IZ h => ?_⟩
  obtain ⟨hs, hc, ht⟩ := h
  refine wpAny_Call_Name_kw (thn ((pe_var (pos := p1) (i := 0) hN hv hd hcd).run pinsZ sZ σZ HZ (fun v H1 => v = .ref f ∧ H1 = HZ) IZ ⟨.ref f, hs, rfl, rfl⟩) fun u s1 ⟨v, H1, I1, r1, q1⟩ => ?_)
  obtain ⟨ev, eH⟩ := q1
  subst ev
  rw [eH] at I1
  obtain rfl : u = Value.ref f := r1
  have un : Un (frs X.stack) [] H HZ s.heap s1.heap := I1.base
  obtain ⟨z1, z2, z3, z4, z5⟩ := hfa
  refine PySem.W.callWith_F0 ⟨_, _, _, _, un.keep f _ z5 hfn hfr (fun z => nomatch z)⟩ ?_
  have rc := hru (X.A.deeper (envOfC qg sg s.heap.objs.size gg cdg)) (envOfC qg sg s.heap.objs.size gg cdg :: X.stack) s1 HZ Q (fun cls dd H => W cls dd σZ H) hr I1.env0 un hc ht
  have hx := passAt tk σZ
  refine wpAny_call (codeAny_mono rc fun r s' hq => ?_)
  cases r with
  | error e => exact hx pinsZ HZ s1 e s' I1 hq
  | ok fl =>
    cases fl with
    | ret u => exact I1.after hq
    | next => exact False.elim hq
    | brk => exact False.elim hq
    | cont => exact False.elim hq
theorem de_ask {Ng : List Str} {qg : Str} {sg : Scope} {gg f c' : Addr} {cdg : Value} {Eg : XK} {k : Nat} {a q : Str} {pn : List (Addr × Obj)} {xe : Value → Shared → Prop} {p1 p2 : Pos} {σ : L2.St} {s : Shared} {H1 : Hp} {S0 : Sset} {env0 : EV} {g0 : Gh} {P0 : List (Addr × D)} {mb : ME}
    (hfa : PySem.W.FnAt f s.heap) (hfn : H1 f = none) (hfr : f ∉ frs X.stack) (hru : Runs X σ f c' q k s H1 fun E => trE G (WD E) mb) (I0 : SI G g0 σ H1 env0 S0 P0) (hc : H1 c' = some (CodeO c' q))
    (tk : Takes ((cxOf (L2.CX X.prog X.w) X.prog X.w X.K X.mg X.base Ng qg sg gg cdg X.A X.stack s H1 Eg).tr pn xe) W) (hr : Room (k + 1) (X.A.deeper (envOfC qg sg s.heap.objs.size gg cdg)))
    (hN : Ng[0]? = some a) (hv : Vis sg a) (hd : (a == ("__debug__" : Str)) = false) (hcd : (a == ("__classdict__" : Str)) = false) :
    DE ((cxOf (L2.CX X.prog X.w) X.prog X.w X.K X.mg X.base Ng qg sg gg cdg X.A X.stack s H1 Eg).tr pn xe) G W (.Call (.Name a p1) [] [] p2) (mAsk f H1 (Or1 S0 (One c')) (toRC (mb (shOnly env0)))) :=
  peImp (pe_act3 hfa hfn hfr hru tk hr hN hv hd hcd) fun σZ HZ Q ⟨g, env, S, P, I, h⟩ => by
    unfold mAsk at h
    by_cases he : env[0]? = some (some (D.thk f H1 (Or1 S0 (One c')), Tag.s))
    · rw [if_pos he] at h
      obtain ⟨v, h1, h2⟩ := I.shr 0 _ he
      cases h2 with
      | thk gr =>
        have gr0 : Grow S0 H1 S HZ := fun b hb => gr b (.inl hb)
        have J := I0.seen gr0 I
        refine ⟨h1, (gr c' (.inr rfl)).2.trans hc, _, shOnly env0, S, [], J, ?_⟩
        cases qm : mb (shOnly env0) with
        | bad => simp only [qm, toRC] at h; exact h.elim
        | exc c fs e =>
          simp only [qm, toRC] at h
          intro cls dd H' S' gr' J' er
          obtain ⟨I', gr2⟩ := I.call0 J'
          exact h cls dd H' S' gr2 I' er
        | ok d o e =>
          simp only [qm, toRC] at h
          intro w H' S' gr' hv
          obtain ⟨S2, g2, J2, r2⟩ := hv.frz
          obtain ⟨I', gr3⟩ := I.call0 J2
          exact h w H' S2 gr3 ⟨I', r2⟩
    · rw [if_neg he] at h
      exact h.elim
/-- x(lambda: body); hv: what the def x makes of the thunk's answer -/
def mHeard (hv : RC → RC) (mb : ME) : ME := fun env => ansE none (hv (toRC (mb (shOnly env)))) env
theorem de_heard {x a : Str} {g c P : Addr} {k : Nat} {pg : Arguments} {bg : List Stmt} {sg : Scope} {dV kV doc pm cdv ct oc : Value} {an od : Option Addr} {osl : Array (Option Value)} {Ng : List Str}
    {params : Arguments} {body : Expr} {scope : Scope} {io : Option Int} {mb : ME} {mh : ME → MS} {hv : RC → RC} {p lpos pos : Pos} (hg : Gl X x) (hm : X.mg x = some (.ref g)) (hk : PySem.W.keepIn X.K (.ref g) = true)
    (lk : X.K.lookup g = some ⟨oc, od, .func (PySem.W.fnOf x x pg bg sg dV kV doc pm an cdv ct), osl⟩) (hcg : PySem.W.codeIn X.K cdv x = true) (hb : L2.Binds X.K (PySem.W.fnOf x x pg bg sg dV kV doc pm an cdv ct) [a] []) (Sg : FnScope Ng [a] sg) (hNg : Ng[0]? = some a) (hva : Vis sg a)
    (TB : TabB X.base X.mg c P) (hcode : X.env.code = .ref c) (hmT : (P, X.env.qual ++ "<lambda>") ∈ G.T) (hu : ∀ p ∈ G.T, p.1 = P → p.2 = X.env.qual ++ "<lambda>") (hr : Room (k + 2) X.A) (L : LamSX X.N X.env.scope scope) (hdef : DefsOf params X.env io) (hbind : BindsL params body scope io) (tk : Takes X W)
    (hbody : ∀ (A : Around) (outer : List Env) (s : Shared) (H : Hp) (E : XK) (f c' : Addr), Room k (A.deeper (lamEnv X scope s.heap.objs.size f c')) → Takes (lamCx X A outer s H E scope f c') (WD E) → DE (lamCx X A outer s H E scope f c') G (WD E) body mb)
    (hG : ∀ (s : Shared) (H : Hp) (E : XK) (ma : ME), Room (k + 1) (X.A.deeper (envOfC x sg s.heap.objs.size g cdv)) → Takes (cxOf (L2.CX X.prog X.w) X.prog X.w X.K X.mg X.base Ng x sg g cdv X.A X.stack s H E) (WD E) →
      (∀ (W : WX) (pn : List (Addr × Obj)) (xe : Value → Shared → Prop) (p1 p2 : Pos), Takes ((cxOf (L2.CX X.prog X.w) X.prog X.w X.K X.mg X.base Ng x sg g cdv X.A X.stack s H E).tr pn xe) W → DE ((cxOf (L2.CX X.prog X.w) X.prog X.w X.K X.mg X.base Ng x sg g cdv X.A X.stack s H E).tr pn xe) G W (.Call (.Name a p1) [] [] p2) ma) →
      DSs (cxOf (L2.CX X.prog X.w) X.prog X.w X.K X.mg X.base Ng x sg g cdv X.A X.stack s H E) G (WD E) bg (mh ma))
    (hhv : ∀ f H1 S1 r, mkFn Ng.length false (mh (mAsk f H1 S1 r)) [.thk f H1 S1] = hv r)
    (hdb : (x == ("__debug__" : Str)) = false := by decide) (hd : (a == ("__debug__" : Str)) = false := by decide) (hcd : (a == ("__classdict__" : Str)) = false := by decide) :
    DE X G W (.Call (.Name x p) [.Lambda params body scope lpos] [] pos) (mHeard hv mb) := by
  refine ⟨fun pins s σ H Q I h => ?_⟩
  obtain ⟨gh, env, S, P, I0, h⟩ := h
  refine wpAny_Call_Name_kw (ld_glob I hg hm ?_ hdb)
  refine PySem.W.callWith_K (h₀ := X.base) I.ok.mod.kin hk ?_ (by rfl) (by rfl)
  show wpAny _ _ (spliced ((false, eval (.Lambda params body scope lpos) X.env) :: backTo pos (starEach [] X.env))) _ _ s
  refine Calls.spliced_cons (lam_make3 I TB hcode hmT hu I0.tab hdef (L.has I.ok) fun f c' dV' pm' ctv H1 s' I1 eN T1 hD hf hfn hfr hco => ?_)
  refine Calls.spliced_nil ⟨I1.kIn, ?_⟩
  obtain ⟨I0', gr⟩ := I0.tabN eN T1
  have I2 := I0'.addExt (show H1 c' = some (.ext _) from hco)
  have gr2 : Grow S H (Or1 S (One c')) H1 := gr.trans (grow_one S H1)
  have hfa : PySem.W.FnAt f s'.heap := ⟨_, _, _, _, hf⟩
  have hru := lam_runs (tb := fun E => trE G (WD E) mb) I1 L hD hf hfn hfr hbind fun A outer s H E hr => hbody A outer s H E f c' hr (takes_of rfl rfl rfl rfl)
  have h := h.mono gr2
  unfold mHeard at h
  rw [← hhv f H1 (Or1 S (One c')) (toRC (mb (shOnly env)))] at h
  have sp := sp_call (n := 1) I2 (.cons (.thk (Grow.rfl')) .nil) rfl h
  have rc : codeAny (model X.prog X.w) X.A (.call (.ref g) ⟨[.ref f], []⟩) (CR (L2.CX X.prog X.w) X.stack X.prog X.w H1 s' Q (fun cls dd H => W cls dd σ H)) s' := by
    refine run_ofS (N := Ng) (ps := [a]) (us := [.ref f]) (vs := [.ref f]) lk hcg Sg hr I1.env0 (hb s' [.ref f] I1.kIn rfl) (.cons rfl .nil) rfl fun hr' => ?_
    refine ⟨_, hG s' H1 (fun cls dd H => W cls dd σ H) _ hr' (takes_of rfl rfl rfl rfl) fun W' pn xe p1 p2 tk' => de_ask hfa hfn hfr hru I0' hco tk' hr' hNg hva hd hcd, ?_⟩
    refine sp_start (W := W) sp ?_
    have : Ng ≠ [] := fun z => by rw [z] at hNg; cases hNg
    exact List.length_pos_iff.mpr this
  have hx := passAt tk σ
  refine wpAny_call (codeAny_mono rc fun r s2 hq => ?_)
  cases r with
  | error e => exact hx pins _ _ e s2 I1 hq
  | ok fl =>
    cases fl with
    | ret u => exact I1.after hq
    | next => exact False.elim hq
    | brk => exact False.elim hq
    | cont => exact False.elim hq
end
end DL

set_option Elab.async false
set_option linter.all false
set_option maxRecDepth 100000
set_option maxHeartbeats 1000000
/-! DL20: repr(a) != repr(b) of like data; == and != by an own __eq__. -/
namespace DL
open PySem PySem.Spec PyProof.Rows L2
mutual
theorem pyD_nodict : ∀ {d : D} {p : PyData}, pyD d = some p → p.hasDict = false
  | .non, _, e => by simp only [pyD] at e; cases e; rfl
  | .bl _, _, e => by simp only [pyD] at e; cases e; rfl
  | .int _, _, e => by simp only [pyD] at e; cases e; rfl
  | .str _, _, e => by simp only [pyD] at e; cases e; rfl
  | .lst xs, _, e => by
    cases q : pyL xs with
    | none => simp [pyD, q] at e
    | some ps => simp [pyD, q] at e; subst e; simp only [PyData.hasDict]; exact pyL_nodict q
  | .tup xs, _, e => by
    cases q : pyL xs with
    | none => simp [pyD, q] at e
    | some ps => simp [pyD, q] at e; subst e; simp only [PyData.hasDict]; exact pyL_nodict q
  | .dct _, _, e => by simp [pyD] at e
  | .dtt _, _, e => by simp [pyD] at e
  | .obj _ _, _, e => by simp [pyD] at e
  | .scr _, _, e => by simp [pyD] at e
  | .exc _ _, _, e => by simp [pyD] at e
  | .thk _ _ _, _, e => by simp [pyD] at e
theorem pyL_nodict : ∀ {ds : List D} {ps : List PyData}, pyL ds = some ps → PyData.hasDictAll ps = false
  | [], _, e => by simp only [pyL] at e; cases e; rfl
  | d :: r, _, e => by
    simp only [pyL] at e
    cases q1 : pyD d with
    | none => simp [q1] at e
    | some p =>
      cases q2 : pyL r with
      | none => simp [q1, q2] at e
      | some ps => simp [q1, q2] at e; subst e; simp only [PyData.hasDictAll, pyD_nodict q1, pyL_nodict q2, Bool.or_false]
end
/-- data whose repr can be told: not too deep, not too long -/
def rprOk (p : PyData) : Bool := p.showable && (decide (p.depth + 1 ≤ 66) && decide (p.shown.length ≤ sizeLine))
section
variable {X : Cx} {G : Ctx} {W : WX}
theorem call_rpr (hg : X.A.guards = some []) (hu : X.A.units + 66 < cLine) : CallR X (.builtin "repr") (fun xs H Q => ∃ a p, xs = [.ref a] ∧ Dp X.K H (.ref a) p ∧ rprOk p = true ∧ p.hasDict = false ∧ Q (.str p.shown) H) := by
  intro pins s σ H xs us Q I r h
  obtain ⟨a, p, rfl, hd, hk, hn, q⟩ := h
  obtain ⟨u, rfl, r1⟩ := Vals.one r
  cases r1
  obtain ⟨as, rd⟩ := Dp.reads I p _ _ hd rfl
  unfold rprOk at hk
  obtain ⟨k1, k2⟩ := Bool.and_eq_true_iff.mp hk
  obtain ⟨k2, k3⟩ := Bool.and_eq_true_iff.mp k2
  have k2 := of_decide_eq_true k2
  exact repr_of_reads' rd k1 (fun z => by rw [hn] at z; cases z) hg (by omega) (fun _ _ e => e) (fun h' u tk k => ⟨.str p.shown, H, I.kept k, ⟨u, rfl⟩, q⟩) (of_decide_eq_true k3)
def isRoot : D → Bool
  | .lst _ => true
  | .tup _ => true
  | _ => false
open Classical in
/-- repr(a) != repr(b), a and b alike (neg: !=) -/
noncomputable def mRpr (neg : Bool) (m1 m2 : ME) : ME := bindE m1 fun x => if isRoot x = true ∧ ∃ p, pyD x = some p ∧ rprOk p = true then bindE m2 fun y env => if x = y then .ok (.bl (!neg)) false env else .bad else fun _ => .bad
theorem root_ref {H : Hp} {S : Sset} {v : V} {d : D} (h : isRoot d = true) (r : RepB G H S v d) : ∃ a, v = .ref a := by
  rcases r with r | ⟨a, rfl, _⟩
  · cases r <;> first | exact ⟨_, rfl⟩ | cases h
  · exact ⟨a, rfl⟩
theorem tRpr_ok {neg : Bool} {r : R2} {m1 m2 : ME} (hK : G.K = X.K) (hr : ∀ s t H Q, Q (.bl (if neg = true then !decide (V.str s = V.str t) else decide (V.str s = V.str t))) H → r (.str s) (.str t) H Q) {σ : L2.St} {H : Hp} {Q : VK} (h : trE G W (mRpr neg m1 m2) σ H Q) :
    tOp r (tCB (fun xs H Q => ∃ a p, xs = [.ref a] ∧ Dp X.K H (.ref a) p ∧ rprOk p = true ∧ p.hasDict = false ∧ Q (.str p.shown) H) (tCons (trE G W m1) tNil)) (tCB (fun xs H Q => ∃ a p, xs = [.ref a] ∧ Dp X.K H (.ref a) p ∧ rprOk p = true ∧ p.hasDict = false ∧ Q (.str p.shown) H) (tCons (trE G W m2) tNil)) σ H Q := by
  obtain ⟨g, env, S, P, I, h⟩ := h
  show trE G W m1 σ H fun v H1 => ∃ a p, [v] = [.ref a] ∧ Dp X.K H1 (.ref a) p ∧ rprOk p = true ∧ p.hasDict = false ∧ trE G W m2 σ H1 fun w H2 => ∃ b q, [w] = [.ref b] ∧ Dp X.K H2 (.ref b) q ∧ rprOk q = true ∧ q.hasDict = false ∧ r (.str p.shown) (.str q.shown) H2 Q
  refine bindE_ok I h fun x env1 v H1 S1 gr I1 r1 h => ?_
  split at h
  · rename_i hc
    obtain ⟨c1, p, c2, c3⟩ := hc
    obtain ⟨a, rfl⟩ := root_ref c1 r1.b
    refine ⟨a, p, rfl, (pyD_okB hK r1.b c2).1, c3, pyD_nodict c2, ?_⟩
    refine bindE_ok I1 h fun y env2 w H2 S2 gr2 I2 r2 h => ?_
    split at h
    · rename_i he
      subst he
      obtain ⟨b, rfl⟩ := root_ref c1 r2.b
      refine ⟨b, p, rfl, (pyD_okB hK r2.b c2).1, c3, pyD_nodict c2, hr _ _ _ _ ?_⟩
      have e0 : (if neg = true then !decide (V.str p.shown = V.str p.shown) else decide (V.str p.shown = V.str p.shown)) = !neg := by cases neg <;> simp
      rw [e0]
      exact h _ H2 S2 Grow.rfl' ⟨I2, .bl⟩
    · exact h.elim
  · exact h.elim
theorem de_rpr {neg : Bool} {op : CmpOp} {e1 e2 : Expr} {m1 m2 : ME} {pos q1 q2 q3 q4 : Pos} (hop : op = if neg then .NotEq else .Eq) (hK : G.K = X.K) (hgu : X.A.guards = some []) (hu : X.A.units + 66 < cLine) (hg : Gl X "repr") (hm : X.mg "repr" = none) (h1 : DE X G W e1 m1) (h2 : DE X G W e2 m2)
    (hs1 : starEach (e1 :: []) X.env = (false, eval e1 X.env) :: starEach [] X.env := by rfl) (hs2 : starEach (e2 :: []) X.env = (false, eval e2 X.env) :: starEach [] X.env := by rfl) (hp1 : (backTo q2 (starEach [] X.env)).any (·.1) = false := by rfl) (hp2 : (backTo q4 (starEach [] X.env)).any (·.1) = false := by rfl)
    (hmk : behindInMarks op (.Call (.Name "repr" q3) [e2] [] q4) = false := by rfl) :
    DE X G W (.Compare (.Call (.Name "repr" q1) [e1] [] q2) [op] [.Call (.Name "repr" q3) [e2] [] q4] pos) (mRpr neg m1 m2) := by
  have c1 := pe_callB (pos := q2) (p := q1) (call_rpr hgu hu) hg hm (by decide +kernel) (pa_cons h1 pa_nil hs1) (by decide) (by decide) hs1 hp1
  have c2 := pe_callB (pos := q4) (p := q3) (call_rpr hgu hu) hg hm (by decide +kernel) (pa_cons h2 pa_nil hs2) (by decide) (by decide) hs2 hp2
  cases neg with
  | true =>
    subst hop
    exact peImp (pe_cmpR op_ne c1 c2 hmk) fun σ H Q h => tRpr_ok (neg := true) (r := rNe) hK (fun s t H Q q => ⟨rfl, q⟩) h
  | false =>
    subst hop
    exact peImp (pe_cmpR op_eq c1 c2 hmk) fun σ H Q h => tRpr_ok (neg := false) (r := rEq) hK (fun s t H Q q => ⟨rfl, q⟩) h
theorem dt_rpr {neg : Bool} {op : CmpOp} {e1 e2 : Expr} {m1 m2 : ME} {pos q1 q2 q3 q4 : Pos} (hop : op = if neg then .NotEq else .Eq) (hK : G.K = X.K) (hgu : X.A.guards = some []) (hu : X.A.units + 66 < cLine) (hg : Gl X "repr") (hm : X.mg "repr" = none) (h1 : DE X G W e1 m1) (h2 : DE X G W e2 m2)
    (hs1 : starEach (e1 :: []) X.env = (false, eval e1 X.env) :: starEach [] X.env := by rfl) (hs2 : starEach (e2 :: []) X.env = (false, eval e2 X.env) :: starEach [] X.env := by rfl) (hp1 : (backTo q2 (starEach [] X.env)).any (·.1) = false := by rfl) (hp2 : (backTo q4 (starEach [] X.env)).any (·.1) = false := by rfl)
    (hmk : behindInMarks op (.Call (.Name "repr" q3) [e2] [] q4) = false := by rfl) :
    DT X G W (.Compare (.Call (.Name "repr" q1) [e1] [] q2) [op] [.Call (.Name "repr" q3) [e2] [] q4] pos) (mT (mRpr neg m1 m2)) := by
  have c1 := pe_callB (pos := q2) (p := q1) (call_rpr hgu hu) hg hm (by decide +kernel) (pa_cons h1 pa_nil hs1) (by decide) (by decide) hs1 hp1
  have c2 := pe_callB (pos := q4) (p := q3) (call_rpr hgu hu) hg hm (by decide +kernel) (pa_cons h2 pa_nil hs2) (by decide) (by decide) hs2 hp2
  cases neg with
  | true =>
    subst hop
    exact ptImp (pt_cmpR op_ne c1 c2 hmk) fun σ H Q h => tRpr_ok (neg := true) (r := rNe) hK (fun s t H Q q => ⟨rfl, q⟩) (mT_ok h)
  | false =>
    subst hop
    exact ptImp (pt_cmpR op_eq c1 c2 hmk) fun σ H Q h => tRpr_ok (neg := false) (r := rEq) hK (fun s t H Q q => ⟨rfl, q⟩) (mT_ok h)
end
end DL
namespace DL
open PySem PySem.Spec PyProof.Rows PySem.W
section
variable {prog : Program} {w : World} {A : Around} {E : Value → Shared → Prop} {s : Shared} {K : Frag} {x C f : Addr} {ox : Obj} {od : Option Obj} {b tb : Value}
/-- the left side answers -/
theorem rich_left {op : CmpOp} {Q : Value → Shared → Prop} (hu : A.units < cLine) (X : K.In s.heap) (I : InstAt s.heap x ox C od) (hb : Looks (model prog w) s.heap (typeOf b) tb) (hn : notFirst K C tb = true)
    (one : wpAny (model prog w) A (tryCompare (.ref x) (cmpInfo op).2.1 b) (fun r s' => ∃ v, r = some v ∧ Q v s') E s) : wpAny (model prog w) A (richCompare op (.ref x) b) Q E s := by
  have back : wpAny (model prog w) A (tryCompare (.ref x) (cmpInfo op).2.1 b >>= fun r => match r with | some v => pure v | none => richCompare op (.ref x) b) Q E s := wpAny_bind (wpAny_mono one (fun r s' ⟨v, e, q⟩ => by subst e; exact wpAny_pure q) fun _ _ z => z)
  unfold richCompare
  simp only [oneThing_ref]
  refine wpAny_holding (wpAny_bind (wpAny_cRoomFor hu (wpAny_bind (I.type.here (wpAny_bind (hb.here ?_))))))
  split
  · rename_i q
    have hs : subIn K tb (.ref C) = some false := by
      unfold notFirst at hn
      cases z : (tb == Value.ref C) with
      | true =>
        have := eq_of_beq z
        subst this
        simp at q
      | false =>
        rw [z, Bool.false_or] at hn
        exact eq_of_beq hn
    refine wpAny_bind ((looks_subIn X hs).here ?_)
    simp only [Bool.false_eq_true, if_false]
    exact wpAny_bind (wpAny_mono one (fun r s' ⟨v, e, q⟩ => by subst e; exact wpAny_pure q) fun _ _ z => z)
  · refine wpAny_bind (wpAny_pure ?_)
    simp only [Bool.false_eq_true, if_false]
    exact wpAny_bind (wpAny_mono one (fun r s' ⟨v, e, q⟩ => by subst e; exact wpAny_pure q) fun _ _ z => z)
theorem try_eq {Q : Option Value → Shared → Prop} (X : K.In s.heap) (I : InstAt s.heap x ox C od) (hs : findIn K (.ref C) "__eq__" = some (some (.ref f))) (hf : isFn K (.ref f) = true)
    (h : wpAny (model prog w) A (call (.ref f) [.ref x, b]) (fun v s' => ∃ k, v = .bool k ∧ Q (some (.bool k)) s') E s) : wpAny (model prog w) A (tryCompare (.ref x) "__eq__" b) Q E s := by
  unfold tryCompare
  refine wpAny_bind (ifBound_K X I hs hf (wpAny_mono h (fun v s' ⟨k, e, q⟩ => ?_) fun _ _ z => z))
  subst e
  exact wpAny_pure q
/-- the default != by an own == -/
theorem try_ne {Q : Option Value → Shared → Prop} (hu : A.units + 1 < cLine) (X : K.In s.heap) (I : InstAt s.heap x ox C od) (hs : findIn K (.ref C) "__eq__" = some (some (.ref f))) (hf : isFn K (.ref f) = true)
    (hne : findIn K (.ref C) "__ne__" = some (some (.builtin "object.__ne__"))) (hob : mroIn K C (.type "object") = some true)
    (h : wpAny (model prog w) A.in1 (call (.ref f) [.ref x, b]) (fun v s' => ∃ k, v = .bool k ∧ Q (some (.bool (!k))) s') E s) : wpAny (model prog w) A (tryCompare (.ref x) "__ne__" b) Q E s := by
  unfold tryCompare
  have sub : Looks (model prog w) s.heap (isInstance (.ref x) (.type "object")) true := I.type.andThen (looks_mroIn X hob)
  have body : wpAny (model prog w) A (call (.builtin "object.__ne__") [.ref x, b]) (fun v s' => ∃ k, v = .bool k ∧ Q (some (.bool k)) s') E s := by
    refine wpAny_call (codeAny_call_builtin PySem.F.cmp_object.ne.plain PySem.F.cmpEntry_ne ?_)
    refine @check_slot (model prog w) _ _ s "object.__ne__" "object" "__ne__" (.ref x) [b] [] _ PySem.F.cmpKind_ne PySem.F.cmpSplit_ne sub (PySem.F.cmpArgs_ne _ _) ?_
    unfold Builtin.«object.__ne__»
    refine wpAny_bind (wpAny_of_eq (a := ((Value.ref x : Value), [b])) (by first | rfl | (simp only [slotArgs]; rfl)) ?_)
    refine wpAny_bind (wpAny_cRoomFor (show A.in1.units < cLine from hu) ?_)
    refine wpAny_bind (ifBound_K X I hs hf (wpAny_mono h (fun v s' ⟨k, e, q⟩ => ?_) fun _ _ z => z))
    subst e
    wp_walk
    exact ⟨_, rfl, q⟩
  simp only [callSpecialIfBound?, bindSpecialIfBound?]
  refine wpAny_bind (wpAny_holding (wpAny_bind (wpAny_bind (wpAny_bind (I.type.here ((looks_findIn X hne).here ?_))))))
  refine wpAny_bind (wpAny_askSetting (wpAny_ite ?_))
  have fin : wpAny (model prog w) A (call (.builtin "object.__ne__") ([.ref x] ++ [b]) >>= fun v => pure (some v)) (fun a s' => wpAny (model prog w) A (match a with | some Value.notImplemented => pure none | none => pure none | some v => pure (some v)) Q E s') E s :=
    wpAny_bind (wpAny_mono body (fun v s' ⟨k, e, q⟩ => by subst e; exact wpAny_pure (wpAny_pure q)) fun _ _ z => z)
  have bnd : bindSpecial (.builtin "object.__ne__") (.ref x) = pure (.builtin "object.__ne__", [.ref x]) := PySem.F.cmp_object.ne.bind _
  split
  · rw [bnd]
    exact wpAny_bind (wpAny_pure (wpAny_pure (by exact fin)))
  · rw [bnd]
    exact wpAny_tryCatch (wpAny_bind (wpAny_pure (wpAny_pure (by exact fin))))
end
end DL
namespace DL
open PySem PySem.Spec PyProof.Rows L2
/-- what the class says of == and != -/
structure OwnE (K : PySem.W.Frag) (C f : Addr) : Prop where
  hs : PySem.W.findIn K (.ref C) "__eq__" = some (some (.ref f))
  hf : PySem.W.isFn K (.ref f) = true
  hne : PySem.W.findIn K (.ref C) "__ne__" = some (some (.builtin "object.__ne__"))
  hob : PySem.W.mroIn K C (.type "object") = some true
/-- x == y, x an instance of a class with an own __eq__ that keeps sp (neg: x != y) -/
def rOwn (K : PySem.W.Frag) (neg : Bool) (sp : Sp) (ok : Addr → Prop) : R2 := fun x y H Q => ∃ a C dx fs t, x = .ref a ∧ H a = some (.ins C dx fs) ∧ ok C ∧ TyX K H y t ∧ PySem.W.notFirst K C t = true ∧ sp [x, y] H (fun v H' => ∃ k, v = .bl k ∧ Q (.bl (if neg then !k else k)) H') fun _ _ _ => False
section
variable {X : Cx} {f : Addr} {fd : FuncData} {ps : List Str} {sp : Sp} {k : Nat} {ok : Addr → Prop}
theorem run_own {A : Around} {pins : List (Addr × Obj)} {σ : L2.St} {H : Hp} {s : Shared} {x y : V} {u v : Value} {Q : VK} {E : Value → Shared → Prop} (F : FnOk X.prog X.w X.K X.mg X.base (L2.CX X.prog X.w) k f fd ps sp) (hb : Binds X.K fd ps []) (hr : Room k A) (hfr : A.frames = X.A.frames) (I : Inv X pins σ H s) (rx : RelV x u) (ry : RelV y v)
    (h : sp [x, y] H Q fun _ _ _ => False) : wpAny (model X.prog X.w) A (call (.ref f) [u, v]) (EP X pins σ Q) E s := by
  have e0 : Env0 X.prog X.w X.K X.mg X.base A X.stack s H := by
    have e := I.env0
    exact ⟨by rw [hfr]; exact e.frames, e.mod, e.bs, e.bsz, e.funs, e.frf, e.hok, e.bare⟩
  have hl := F.len _ _ _ _ h
  have r2 : Vals [x, y] [u, v] := .cons rx (.cons ry .nil)
  refine wpAny_call (codeAny_mono (F.run A X.stack s H ⟨[u, v], []⟩ [u, v] [x, y] Q _ hr e0 (by
    have := hb s [u, v] I.kIn (by simpa using hl)
    simpa using this) r2 h) fun r s' hq => ?_)
  cases r with
  | error e =>
    obtain ⟨_, _, _, _, _, _, _, _, _, _, _, _, z⟩ := hq
    exact z.elim
  | ok fl =>
    cases fl with
    | ret w => exact I.after hq
    | next => exact False.elim hq
    | brk => exact False.elim hq
    | cont => exact False.elim hq
theorem op_own {neg : Bool} {op : CmpOp} (hop : op = if neg then .NotEq else .Eq) (F : FnOk X.prog X.w X.K X.mg X.base (L2.CX X.prog X.w) k f fd ps sp) (hb : Binds X.K fd ps []) (hr : Room (k + 1) X.A) (ho : ∀ C, ok C → OwnE X.K C f) : OpR X (compareOp op) (rOwn X.K neg sp ok) := by
  intro pins s σ H x y u v Q I rx ry h
  obtain ⟨a, C, dx, fs, t, rfl, ha, hC, ty, nf, hsp⟩ := h
  have O := ho C hC
  obtain ⟨mA, J, _⟩ := ins_get I.hok ha
  obtain ⟨od, J, _⟩ := J.look
  obtain ⟨Pk, Z, p, _⟩ := kit_of I ry ty
  have hty := Z.ty (M := model X.prog X.w) s.heap I.kIn p
  cases rx
  cases neg with
  | false =>
    subst hop
    refine rich_left (op := .Eq) (hr.mono (Nat.le_succ k)).units0 I.kIn J hty nf ?_
    refine try_eq I.kIn J O.hs O.hf (wpAny_mono (run_own F hb (hr.mono (Nat.le_succ k)) rfl I (show RelV (.ref a) (.ref a) from rfl) ry hsp) (fun w s' hw => ?_) fun _ _ z => z)
    obtain ⟨z, H', I', rz, kk, ez, q⟩ := hw
    subst ez
    cases rz
    exact ⟨kk, rfl, _, rfl, .bl kk, H', I', rfl, q⟩
  | true =>
    subst hop
    refine rich_left (op := .NotEq) (hr.mono (Nat.le_succ k)).units0 I.kIn J hty nf ?_
    have hr1 : Room k X.A.in1 := hr.in1
    refine try_ne (by have := hr.un; omega) I.kIn J O.hs O.hf O.hne O.hob (wpAny_mono (run_own F hb hr1 rfl I (show RelV (.ref a) (.ref a) from rfl) ry hsp) (fun w s' hw => ?_) fun _ _ z => z)
    obtain ⟨z, H', I', rz, kk, ez, q⟩ := hw
    subst ez
    cases rz
    exact ⟨kk, rfl, _, rfl, .bl (!kk), H', I', rfl, q⟩
end
section
variable {X : Cx} {G : Ctx} {W : WX} {f : Addr} {fd : FuncData} {ps : List Str} {c : FN} {k : Nat}
/-- may y stand on the right of an instance of class n -/
def rightOk (oks : List Nat) (n : Nat) : D → Bool
  | .obj m _ => oks.contains m
  | .exc _ _ => false
  | .thk _ _ _ => false
  | _ => true
def ownE (neg : Bool) (r : RC) : ME := fun env => match r with
  | .ok d _ _ => match d with
    | .bl b => .ok (.bl (if neg then !b else b)) false env
    | _ => .bad
  | _ => .bad
/-- x == y by __eq__; lefts: the classes with this __eq__; oks: the classes that may stand right -/
def mOwn (neg : Bool) (c : FN) (lefts oks : List Nat) (m1 m2 : ME) : ME := bindE m1 fun x => bindE m2 fun y => match x with
  | .obj n fs => match lefts.contains n && rightOk oks n y with
    | true => ownE neg (c [.obj n fs, y])
    | false => fun _ => .bad
  | _ => fun _ => .bad
theorem sp_own {g : Gh} {σ : L2.St} {H : Hp} {env : EV} {S : Sset} {P : List (Addr × D)} {Q : VK} {vs : List V} {ds : List D} {neg : Bool} {n : Nat} (I : SI G g σ H env S P) (r : RepL G H S vs ds) (hn : vs.length = n) (h : PostE G W g σ H S P Q (ownE neg (c ds) env)) :
    SpF G false n c vs H (fun v H' => ∃ k, v = .bl k ∧ Q (.bl (if neg then !k else k)) H') fun _ _ _ => False := by
  refine ⟨hn, S, ds, none, rfl, I.sho, r, ?_⟩
  unfold ownE at h
  cases q : c ds with
  | bad => rw [q] at h; exact h.elim
  | exc k fs f => rw [q] at h; exact h.elim
  | ok d o f =>
    rw [q] at h
    cases d with
    | bl b =>
      intro v H' S' P' J _ hv
      obtain ⟨I', gr⟩ := I.call0 J
      cases o with
      | false =>
        cases hv
        exact ⟨b, rfl, h _ H' S' gr ⟨I', .bl⟩⟩
      | true => obtain ⟨_, _, _, hv⟩ := hv; exact hv.2.elim
    | _ => exact h.elim
theorem tOwn_ok {neg : Bool} {lefts oks : List Nat} {m1 m2 : ME} (hK : G.K = X.K) (hi : ∀ n, oks.contains n = true → InsK X.K (G.C n)) (hnf : ∀ n d t, lefts.contains n = true → rightOk oks n d = true → tyVal G d = some t → PySem.W.notFirst X.K (G.C n) t = true) {σ : L2.St} {H : Hp} {Q : VK} (h : trE G W (mOwn neg c lefts oks m1 m2) σ H Q) :
    tOp (rOwn X.K neg (SpF G false 2 c) fun C => ∃ n, lefts.contains n = true ∧ C = G.C n) (trE G W m1) (trE G W m2) σ H Q := by
    obtain ⟨g, env, S, P, I, h⟩ := h
    show trE G W m1 σ H fun v H1 => trE G W m2 σ H1 fun w H2 => rOwn X.K neg (SpF G false 2 c) (fun C => ∃ n, lefts.contains n = true ∧ C = G.C n) v w H2 Q
    refine bindE_ok I h fun x env1 v H1 S1 g1 I1 r1 h => ?_
    refine bindE_ok I1 h fun y env2 w H2 S2 g2 I2 r2 h => ?_
    cases x with
    | obj n fs =>
      cases q : lefts.contains n && rightOk oks n y with
      | false => simp only [q] at h; exact h.elim
      | true =>
        simp only [q] at h
        obtain ⟨q1, q2⟩ := Bool.and_eq_true_iff.mp q
        have r1 := r1.mono g2
        obtain ⟨a, dx, vs, rfl, ha, _, _⟩ := RepB.obj (.inl r1)
        have hy : okObj oks y = true := by cases y <;> first | exact q2 | rfl | cases q2
        obtain ⟨t, ht⟩ := ty_some (G := G) hy
        exact ⟨a, _, dx, _, t, rfl, ha, ⟨n, q1, rfl⟩, tyX_of hK hi hy ht (.inl r2), hnf n y t q1 q2 ht, sp_own I2 (.cons r1 (.cons r2 .nil)) rfl h⟩
    | _ => exact h.elim
theorem de_own {neg : Bool} {op : CmpOp} {lefts oks : List Nat} {e1 e2 : Expr} {m1 m2 : ME} {pos : Pos} (hop : op = if neg then .NotEq else .Eq) (hK : G.K = X.K) (F : FnOk X.prog X.w X.K X.mg X.base (L2.CX X.prog X.w) k f fd ps (SpF G false 2 c)) (hb : Binds X.K fd ps []) (hr : Room (k + 1) X.A)
    (ho : ∀ n, lefts.contains n = true → OwnE X.K (G.C n) f) (hi : ∀ n, oks.contains n = true → InsK X.K (G.C n)) (hnf : ∀ n d t, lefts.contains n = true → rightOk oks n d = true → tyVal G d = some t → PySem.W.notFirst X.K (G.C n) t = true)
    (h1 : DE X G W e1 m1) (h2 : DE X G W e2 m2) (hm : behindInMarks op e2 = false := by rfl) : DE X G W (.Compare e1 [op] [e2] pos) (mOwn neg c lefts oks m1 m2) :=
  peImp (pe_cmpR (op_own (ok := fun C => ∃ n, lefts.contains n = true ∧ C = G.C n) hop F hb hr fun C ⟨n, h, e⟩ => by subst e; exact ho n h) h1 h2 hm) fun σ H Q h => tOwn_ok hK hi hnf h
theorem dt_own {neg : Bool} {op : CmpOp} {lefts oks : List Nat} {e1 e2 : Expr} {m1 m2 : ME} {pos : Pos} (hop : op = if neg then .NotEq else .Eq) (hK : G.K = X.K) (F : FnOk X.prog X.w X.K X.mg X.base (L2.CX X.prog X.w) k f fd ps (SpF G false 2 c)) (hb : Binds X.K fd ps []) (hr : Room (k + 1) X.A)
    (ho : ∀ n, lefts.contains n = true → OwnE X.K (G.C n) f) (hi : ∀ n, oks.contains n = true → InsK X.K (G.C n)) (hnf : ∀ n d t, lefts.contains n = true → rightOk oks n d = true → tyVal G d = some t → PySem.W.notFirst X.K (G.C n) t = true)
    (h1 : DE X G W e1 m1) (h2 : DE X G W e2 m2) (hm : behindInMarks op e2 = false := by rfl) : DT X G W (.Compare e1 [op] [e2] pos) (mT (mOwn neg c lefts oks m1 m2)) :=
  ptImp (pt_cmpR (op_own (ok := fun C => ∃ n, lefts.contains n = true ∧ C = G.C n) hop F hb hr fun C ⟨n, h, e⟩ => by subst e; exact ho n h) h1 h2 hm) fun σ H Q h => tOwn_ok hK hi hnf (mT_ok h)
end
end DL

set_option Elab.async false
set_option linter.all false
set_option maxRecDepth 100000
set_option maxHeartbeats 1000000
/-! DL21: C(k = x, ..) with names alone as arguments, lists of the frame's own lent; dict displays. -/
namespace DL
open PySem PySem.Spec PyProof.Rows L2
mutual
/-- no list within -/
def noLst : D → Bool
  | .lst _ => false
  | .scr _ => false
  | .thk _ _ _ => false
  | .tup xs => noLstL xs
  | .dct kvs => noLstK kvs
  | .dtt kvs => noLstT kvs
  | .obj _ fs => noLstL fs
  | .exc _ fs => noLstL fs
  | _ => true
def noLstL : List D → Bool
  | [] => true
  | d :: r => noLst d && noLstL r
def noLstK : List (Key × D) → Bool
  | [] => true
  | (_, d) :: r => noLst d && noLstK r
def noLstT : List (List Key × D) → Bool
  | [] => true
  | (_, d) :: r => noLst d && noLstT r
end
section
variable {G : Ctx} {H : Hp} {S S' : Sset}
theorem exD_ne {cls : Value} {a d : Addr} {xs : List V} : ¬ (some (ExD cls a d) = some (HO.lst xs)) := fun z => by unfold ExD at z; cases z
mutual
/-- data without lists stand in the set without lists -/
theorem Rep.wo (h : ∀ a, S a → S' a ∨ ∃ xs, H a = some (.lst xs)) : ∀ {v : V} {d : D}, Rep G H S v d → noLst d = true → Rep G H S' v d
  | _, _, .non, _ => .non
  | _, _, .bl, _ => .bl
  | _, _, .int, _ => .int
  | _, _, .str x, _ => .str x
  | _, _, .tup s e l r, n => .tup ((h _ s).resolve_right fun ⟨_, z⟩ => by rw [e] at z; cases z) e l (RepL.wo h r (by simpa only [noLst] using n))
  | _, _, .ktup k r, n => .ktup k (RepL.wo h r (by simpa only [noLst] using n))
  | _, _, .lst s e l r, n => by simp [noLst] at n
  | _, _, .dct s e l r, n => .dct ((h _ s).resolve_right fun ⟨_, z⟩ => by rw [e] at z; cases z) e l (RepK.wo h r (by simpa only [noLst] using n))
  | _, _, .dtt s e l r, n => .dtt ((h _ s).resolve_right fun ⟨_, z⟩ => by rw [e] at z; cases z) e l (RepT.wo h r (by simpa only [noLst] using n))
  | _, _, .obj s e l r, n => .obj ((h _ s).resolve_right fun ⟨_, z⟩ => by rw [e] at z; cases z) e l (RepL.wo h r (by simpa only [noLst] using n))
  | _, _, .scr s e l, n => by simp [noLst] at n
  | _, _, .kscr e l, n => by simp [noLst] at n
  | _, _, .exc s s2 e e2 l r, n => .exc ((h _ s).resolve_right fun ⟨_, z⟩ => by rw [e] at z; exact exD_ne z) ((h _ s2).resolve_right fun ⟨_, z⟩ => by rw [e2] at z; cases z) e e2 l (RepL.wo h r (by simpa only [noLst] using n))
  | _, _, .thk g, n => by simp [noLst] at n
theorem RepL.wo (h : ∀ a, S a → S' a ∨ ∃ xs, H a = some (.lst xs)) : ∀ {v : List V} {d : List D}, RepL G H S v d → noLstL d = true → RepL G H S' v d
  | _, _, .nil, _ => .nil
  | _, _, .cons a b, n => by
    simp only [noLstL, Bool.and_eq_true] at n
    exact .cons (Rep.wo h a n.1) (RepL.wo h b n.2)
theorem RepK.wo (h : ∀ a, S a → S' a ∨ ∃ xs, H a = some (.lst xs)) : ∀ {v : List (Key × V)} {d : List (Key × D)}, RepK G H S v d → noLstK d = true → RepK G H S' v d
  | _, _, .nil, _ => .nil
  | _, _, .cons k a b, n => by
    simp only [noLstK, Bool.and_eq_true] at n
    exact .cons k (Rep.wo h a n.1) (RepK.wo h b n.2)
theorem RepT.wo (h : ∀ a, S a → S' a ∨ ∃ xs, H a = some (.lst xs)) : ∀ {v : List (List Key × V)} {d : List (List Key × D)}, RepT G H S v d → noLstT d = true → RepT G H S' v d
  | _, _, .nil, _ => .nil
  | _, _, .cons k a b, n => by
    simp only [noLstT, Bool.and_eq_true] at n
    exact .cons k (Rep.wo h a n.1) (RepT.wo h b n.2)
end
end
section
variable {G : Ctx} {g : Gh} {σ : L2.St} {H H' : Hp} {env : EV} {S : Sset} {P : List (Addr × D)} {a : Addr} {d d' : D}
/-- behind a callee that changed the pending root a; the lists L of the frame's own were lent -/
theorem SI.callPL {fl : Bool} {σ' : L2.St} {env' : EV} {S' : Sset} {R : List (Addr × D)} {L : Sset} {c : Nat} {fs : List D} (I : SI G g σ H env S ((a, d) :: P)) (hL : ∀ b, L b → ∃ (i : Nat) (xs : List D) (t : Tag), t ≠ .s ∧ env[i]? = some (some (.lst xs, t)) ∧ σ[i]? = some (some (.ref b)))
    (J : SI G ⟨H, fun b => S b ∨ L b, some a, fl⟩ σ' H' env' S' R) (hn : Own G H' S' a (.obj c fs)) (hd : noLstL fs = true) : SI G g σ H' env (fun b => S' b ∧ ¬ L b) ((a, .obj c fs) :: P) ∧ Grow S H (fun b => S' b ∧ ¬ L b) H' := by
  have ha := I.pend (a, d) List.mem_cons_self
  have nd : a ∉ P.map (·.1) := (List.nodup_cons.mp (by have := I.pun; rwa [List.map_cons] at this)).1
  have e : ∀ b o, b ≠ a → H b = some o → Keep H' b o := fun b o hb h => J.fr b o h (by simpa using Ne.symm hb)
  have lo : ∀ b, L b → ∃ xs, Own G H S b (.lst xs) := fun b hb => by
    obtain ⟨i, xs, t, ht, h1, h2⟩ := hL b hb
    obtain ⟨b', k1, k2, _⟩ := I.own i _ t ht h1
    rw [h2] at k1; injection k1 with k1; injection k1 with k1; injection k1 with k1; subst k1
    exact ⟨xs, k2⟩
  have la : ¬ L a := fun h => by
    obtain ⟨i, xs, t, ht, h1, h2⟩ := hL a h
    exact I.pdis (a, d) List.mem_cons_self i _ t ht h1 h2
  have gr : Grow S H (fun b => S' b ∧ ¬ L b) H' := fun b hb => ⟨⟨J.sh0 b (.inl hb), fun h => by obtain ⟨xs, q⟩ := lo b h; exact q.1 hb⟩, by
    obtain ⟨o, ho⟩ := I.shH b hb
    exact ((e b o (fun q => ha.1.1 (q ▸ hb)) ho).nt fun ps z => I.nt b hb ps (ho.trans z)).trans ho.symm⟩
  have ow : ∀ {b : Addr} {e' : D}, b ≠ a → Own G H S b e' → Own G H' (fun b => S' b ∧ ¬ L b) b e' := fun {b e'} hb ⟨h1, h2⟩ => by
    obtain ⟨o, ho⟩ := h2.some
    refine ⟨fun ⟨h, hl⟩ => ?_, h2.mono gr (((e b o hb ho).nt fun ps z => h2.nt ps (ho.trans z)).trans ho.symm)⟩
    rcases J.sh1 b h with h | h | h | ⟨φ, h⟩
    · exact h.elim h1 hl
    · have h : H b = none := h
      rw [h] at ho; cases ho
    · have h : some a = some b := h
      injection h with h; exact hb h.symm
    · exact h2.ne_ext φ h
  have base : SI G g σ H' env (fun b => S' b ∧ ¬ L b) P := by
    refine ⟨I.len, fun j x q => ?_, fun j x u hu q => ?_, I.uniq, I.pin, I.pin0, fun p hp => ⟨ow (fun z => nd (z ▸ List.mem_map_of_mem hp)) (I.pop.pend p hp).1, (I.pop.pend p hp).2⟩, I.pop.pun, I.pop.pdis, fun b u q1 q2 => ?_, fun b h => (gr b (I.sh0 b h)).1, fun b h => ?_, fun b h => J.shH b h.1, J.tab, fun b h => J.nt b h.1⟩
    · obtain ⟨v, q1, q2⟩ := I.shr j x q
      exact ⟨v, q1, q2.mono gr⟩
    · obtain ⟨b, q1, q2, q3⟩ := I.own j x u hu q
      exact ⟨b, q1, ow (fun z => I.pdis (a, d) List.mem_cons_self j x u hu q (z ▸ q1)) q2, q3⟩
    · have nb : b ≠ a := fun z => by
        subst z
        rcases ha.2 with h3 | h3
        · rw [h3] at q1; cases q1
        · exact q2 h3
      rcases I.fr b u q1 q2 with k | ⟨k1, ps, k⟩
      · exact e b u nb k
      · rcases e b _ nb k with q | ⟨_, q⟩
        · exact .inr ⟨k1, ps, q⟩
        · exact .inr ⟨k1, q⟩
    · rcases J.sh1 b h.1 with q | q | q | ⟨φ, q⟩
      · exact q.elim (I.sh1 b) fun z => absurd z h.2
      · exact sh1_ok (I.okNew q)
      · have q : some a = some b := q
        injection q with q; subst q; exact sh1_ok ha.2
      · exact I.sh1_ext q
  have at' : At G H' (fun b => S' b ∧ ¬ L b) a (.obj c fs) := by
    obtain ⟨dx, vs, h1, h2, h3⟩ := hn.2
    refine ⟨dx, vs, h1, h2, h3.wo (fun b hb => ?_) hd⟩
    by_cases hl : L b
    · obtain ⟨xs, q⟩ := lo b hl
      obtain ⟨ws, k1, _⟩ := q.2
      have nb : b ≠ a := fun z => la (z ▸ hl)
      exact .inr ⟨ws, ((e b _ nb k1).nt fun ps z => by cases z)⟩
    · exact .inl ⟨hb, hl⟩
  exact ⟨base.push ⟨fun h => hn.1 h.1, at'⟩ ha.2 (fun p hp q => nd (q ▸ List.mem_map_of_mem hp)) (I.pdis (a, d) List.mem_cons_self), gr⟩
end
end DL
namespace DL
open PySem PySem.Spec PyProof.Rows L2
section
variable {X : Cx} {G : Ctx} {W : WX} {g : Gh} {σ : L2.St} {H H1 H' : Hp} {env env1 : EV} {S S1 : Sset} {P : List (Addr × D)} {Q : VK} {a : Addr} {d d' : D}
/-! ### {k: v, ..} -/
def evP : List (ME × ME) → (List (D × D) → ME) → ME
  | [], k => k []
  | (a, b) :: r, k => bindE a fun x => bindE b fun y => evP r fun l => k ((x, y) :: l)
def mkK : List (D × D) → Option (List (Key × D))
  | [] => some []
  | (x, y) :: r => match keyD x, mkK r with
    | some k, some l => some ((k, y) :: l)
    | _, _ => none
def mergeD (kvs more : List (Key × D)) : List (Key × D) := more.foldl (fun acc kv => putD acc kv.1 kv.2) kvs
def dctE (l : List (D × D)) : ME := fun env => match mkK l with
  | some kds => .ok (.dct (mergeD [] kds)) true env
  | none => .bad
def mDct (ms : List (ME × ME)) : ME := evP ms dctE
abbrev DPs (X : Cx) (G : Ctx) (W : WX) (pos : Pos) (keys : List (Option Expr)) (values : List Expr) (ms : List (ME × ME)) := PPs X pos keys values (ms.map fun ab => (trE G W ab.1, trE G W ab.2))
theorem dps_nil {pos : Pos} : DPs X G W pos [] [] [] := pps_nil
theorem dps_cons {pos : Pos} {k v : Expr} {ks : List (Option Expr)} {vs : List Expr} {mk mv : ME} {ms : List (ME × ME)} (hk : DE X G W k mk) (hv : DE X G W v mv) (hr : DPs X G W pos ks vs ms) : DPs X G W pos (some k :: ks) (v :: vs) ((mk, mv) :: ms) := pps_cons hk hv hr
inductive RepP (G : Ctx) (H : Hp) (S : Sset) : List (V × V) → List (D × D) → Prop
  | nil : RepP G H S [] []
  | cons {v w x y vs ds} : Rep G H S v x → Rep G H S w y → RepP G H S vs ds → RepP G H S ((v, w) :: vs) ((x, y) :: ds)
theorem RepP.mono (gr : Grow S H S1 H1) : ∀ {vs : List (V × V)} {ds : List (D × D)}, RepP G H S vs ds → RepP G H1 S1 vs ds
  | _, _, .nil => .nil
  | _, _, .cons a b c => .cons (a.mono gr) (b.mono gr) (RepP.mono gr c)
theorem PostE.pop {r : RE} {p : Addr × D} {R : VK} (h : PostE G W g σ H S P Q r) (hk : ∀ d o e v H' S', r = .ok d o e → Grow S H S' H' → Val G g σ H' e S' (p :: P) v d o → R v H') : PostE G W g σ H S (p :: P) R r := by
  cases r with
  | ok d o e => exact fun v H' S' gr hv => hk d o e v H' S' rfl gr hv
  | exc c fs e => exact fun cls dd H' S' gr I' er => h cls dd H' S' gr I'.pop er
  | bad => exact h
theorem bindE_okP {m : ME} {k : D → ME} {R : VK} {p : Addr × D} (I : SI G g σ H env S (p :: P)) (h : PostE G W g σ H S P Q (bindE m k env))
    (hk : ∀ d env1 v H1 S1, Grow S H S1 H1 → SI G g σ H1 env1 S1 (p :: P) → Rep G H1 S1 v d → PostE G W g σ H1 S1 P Q (k d env1) → R v H1) : trE G W m σ H R := by
  refine ⟨g, env, S, p :: P, I, ?_⟩
  unfold bindE at h
  cases q : m env with
  | ok d o e =>
    rw [q] at h
    intro v H1 S1 gr hv
    obtain ⟨S2, g2, I2, r2⟩ := hv.frz
    exact hk d e v H1 S2 (gr.trans g2) I2 r2 (h.mono (gr.trans g2))
  | exc c fs e => rw [q] at h; exact fun cls dd H' S' gr I' er => h cls dd H' S' gr I'.pop er
  | bad => rw [q] at h; exact h
theorem evP_ok {p : Addr × D} {R : List (V × V) → Hp → Prop} : ∀ (ms : List (ME × ME)) (k : List (D × D) → ME) {H : Hp} {env : EV} {S : Sset}, SI G g σ H env S (p :: P) → PostE G W g σ H S P Q (evP ms k env) →
    (∀ vs ds H1 S1 env1, Grow S H S1 H1 → SI G g σ H1 env1 S1 (p :: P) → RepP G H1 S1 vs ds → vs.length = ms.length → PostE G W g σ H1 S1 P Q (k ds env1) → R vs H1) → tPairs (ms.map fun ab => (trE G W ab.1, trE G W ab.2)) σ H R
  | [], k, H, env, S, I, h, hk => hk [] [] H S env Grow.rfl' I .nil rfl h
  | (a, b) :: r, k, H, env, S, I, h, hk => by
    refine bindE_okP I h fun x env1 v H1 S1 g1 I1 r1 h => ?_
    refine bindE_okP I1 h fun y env2 w H2 S2 g2 I2 r2 h => ?_
    exact evP_ok r (fun l => k ((x, y) :: l)) I2 h fun vs ds H3 S3 env3 g3 I3 rp hlen h => hk _ _ H3 S3 env3 ((g1.trans g2).trans g3) I3 (.cons ((r1.mono g2).mono g3) (r2.mono g3) rp) (by rw [List.length_cons, hlen, List.length_cons]) h
theorem mkK_ok : ∀ {vs : List (V × V)} {ds : List (D × D)} {kds : List (Key × D)}, RepP G H S vs ds → mkK ds = some kds → ∃ kvs : List (Key × V), vs = kvs.map (fun kv => (kV kv.1, kv.2)) ∧ RepK G H S kvs kds
  | _, _, kds, .nil, e => by simp only [mkK] at e; cases e; exact ⟨[], rfl, .nil⟩
  | _, _, kds, .cons (x := x) (y := y) (ds := ds) a b c, e => by
    simp only [mkK] at e
    cases q1 : keyD x with
    | none => simp [q1] at e
    | some k =>
      cases q2 : mkK ds with
      | none => simp [q1, q2] at e
      | some l =>
        simp [q1, q2] at e
        subst e
        obtain ⟨kvs, rfl, rk⟩ := mkK_ok c q2
        obtain ⟨rfl, ko⟩ := keyD_ok q1 (.inl a)
        exact ⟨(k, _) :: kvs, rfl, .cons ko b rk⟩
theorem RepK.merge : ∀ {more : List (Key × V)} {md : List (Key × D)} {kvs : List (Key × V)} {kds : List (Key × D)}, RepK G H S more md → RepK G H S kvs kds → RepK G H S (mergeK kvs more) (mergeD kds md)
  | _, _, _, _, .nil, r => r
  | _, _, _, _, .cons hk hv hr, r => by
    have z := RepK.merge hr (RepK.put hk hv r)
    exact z
theorem de_dct {keys : List (Option Expr)} {values : List Expr} {pos : Pos} {ms : List (ME × ME)} (h : DPs X G W pos keys values ms) (hl2 : ms.length ≤ 15 := by decide) (hall : keys.all (·.isSome) = true := by rfl) (hl : keys.length = values.length := by rfl) (h0 : keys ≠ [] := by simp) (h15 : keys.length ≤ 15 := by decide) (hkm : keys.length = ms.length := by rfl) :
    DE X G W (.Dict keys values pos) (mDct ms) :=
  peImp (pe_disp h hall hl h0 h15) fun σ H Q ⟨g, env, S, P, I, h⟩ => fun p hp => by
    have I2 := I.extOwn (N := Nul) (H' := L2.upd H p (.dK [])) (a := p) (d := .dct []) (Ext.upd hp) (fun _ h => h.elim) hp id ⟨[], upd_same, Nat.zero_le _, .nil⟩
    rw [or1_nul] at I2
    have g1 : Grow S H S (L2.upd H p (.dK [])) := grow_upd I.shH hp
    refine evP_ok ms dctE I2 (h.mono g1) fun vs ds H1 S1 env1 gr I3 rp hlen h => ?_
    have own := I3.pend (p, .dct []) List.mem_cons_self
    obtain ⟨ws, k1, k2, k3⟩ := own.1.2
    cases k3
    refine ⟨k1, ?_⟩
    unfold dctE at h
    cases q : mkK ds with
    | none => simp only [q] at h; exact h.elim
    | some kds =>
      simp only [q] at h
      obtain ⟨kvs, rfl, rk⟩ := mkK_ok rp q
      have gw : Grow S1 H1 S1 (L2.upd H1 p (.dK (mergeK [] kvs))) := own_grow own.1
      have lz : kvs.length ≤ 15 := by rw [← List.length_map (f := fun kv : Key × V => (kV kv.1, kv.2)), hlen]; exact hl2
      refine ⟨kvs, rfl, lz, h _ _ S1 gw ⟨p, rfl, I3.writeP ⟨_, upd_same, ?_, (RepK.merge rk .nil).mono gw⟩⟩⟩
      have h1 := length_mergeK kvs []
      rw [List.length_nil] at h1
      rw [sizeLine_eq]; omega
def mDct0 : ME := fun env => .ok (.dct []) true env
theorem de_dct0 {pos : Pos} : DE X G W (.Dict [] [] pos) mDct0 :=
  peImp pe_dnewK fun σ H Q ⟨g, env, S, P, I, h⟩ => fun p hp => by
    have I2 := I.extOwn (N := Nul) (H' := L2.upd H p (.dK [])) (a := p) (d := .dct []) (Ext.upd hp) (fun _ h => h.elim) hp id ⟨[], upd_same, Nat.zero_le _, .nil⟩
    rw [or1_nul] at I2
    exact h _ _ S (grow_upd I.shH hp) ⟨p, rfl, I2⟩
/-! ### C(k = x, ..), x names alone -/
def datL (env : EV) : List Nat → Option (List D)
  | [] => some []
  | i :: r => match env[i]?, datL env r with
    | some (some (d, t)), some l => (match t with
      | .s => some (d :: l)
      | _ => match d with
        | .lst xs => some (.lst xs :: l)
        | _ => none)
    | _, _ => none
def mMakeK (c : FN) (cls : Nat) (is : List Nat) (pd : List D → List D) : ME := fun env => match datL env is with
  | some ds => match c (.obj cls [] :: pd ds) with
    | .ok d _ (some f) => (match d, f with
      | .non, .obj n fs => (match noLstL fs with
        | true => .ok (.obj n fs) true env
        | false => .bad)
      | _, _ => .bad)
    | _ => .bad
  | none => .bad
theorem datL_ok : ∀ {is : List Nat} {ds : List D}, SI G g σ H env S P → datL env is = some ds → ∃ vs : List V, (∀ (j i : Nat), is[j]? = some i → ∃ v, σ[i]? = some (some v) ∧ vs[j]? = some v) ∧ vs.length = is.length ∧
    RepL G H (fun b => S b ∨ ∃ (i : Nat) (xs : List D) (t : Tag), t ≠ .s ∧ env[i]? = some (some (.lst xs, t)) ∧ σ[i]? = some (some (.ref b))) vs ds
  | [], _, _, e => by simp only [datL] at e; cases e; exact ⟨[], fun j i h => by simp at h, rfl, .nil⟩
  | i :: r, ds, I, e => by
    have gS : Grow S H (fun b => S b ∨ ∃ (i : Nat) (xs : List D) (t : Tag), t ≠ .s ∧ env[i]? = some (some (.lst xs, t)) ∧ σ[i]? = some (some (.ref b))) H := fun b hb => ⟨.inl hb, rfl⟩
    simp only [datL] at e
    cases q1 : env[i]? with
    | none => simp [q1] at e
    | some dt =>
      cases dt with
      | none => simp [q1] at e
      | some dt =>
        obtain ⟨d, t⟩ := dt
        cases q2 : datL env r with
        | none => simp [q1, q2] at e
        | some l =>
          obtain ⟨vs, h1, h2, h3⟩ := datL_ok I q2
          have fin : ∀ v, σ[i]? = some (some v) → Rep G H (fun b => S b ∨ ∃ (i : Nat) (xs : List D) (t : Tag), t ≠ .s ∧ env[i]? = some (some (.lst xs, t)) ∧ σ[i]? = some (some (.ref b))) v d → ∃ vs : List V, (∀ (j i' : Nat), (i :: r)[j]? = some i' → ∃ v, σ[i']? = some (some v) ∧ vs[j]? = some v) ∧ vs.length = (i :: r).length ∧
              RepL G H (fun b => S b ∨ ∃ (i : Nat) (xs : List D) (t : Tag), t ≠ .s ∧ env[i]? = some (some (.lst xs, t)) ∧ σ[i]? = some (some (.ref b))) vs (d :: l) := fun v hv rv => by
            refine ⟨v :: vs, fun j i' hj => ?_, by rw [List.length_cons, h2, List.length_cons], .cons rv h3⟩
            cases j with
            | zero => simp at hj; subst hj; exact ⟨v, hv, rfl⟩
            | succ j => exact h1 j i' (by simpa using hj)
          by_cases ht : t = .s
          · subst ht
            simp only [q1, q2, Option.some.injEq] at e
            subst e
            obtain ⟨v, k1, k2⟩ := I.shr i d q1
            exact fin v k1 (k2.mono gS)
          · have e : ∃ xs, d = .lst xs ∧ ds = .lst xs :: l := by
              cases t <;> first | exact absurd rfl ht | (simp only [q1, q2] at e; cases d <;> simp at e <;> exact ⟨_, rfl, e.symm⟩)
            obtain ⟨xs, rfl, rfl⟩ := e
            obtain ⟨a, k1, k2, _⟩ := I.own i _ t ht q1
            exact fin _ k1 ((k2.2.mono gS rfl).rep (.inr ⟨i, xs, t, ht, q1, k1⟩))
/-- the keywords are names of the frame's slots -/
inductive KwV (X : Cx) : List Keyword → List Nat → Prop
  | nil : KwV X [] []
  | cons {nm : Option Str} {y : Str} {py kpos : Pos} {i : Nat} {kws : List Keyword} {is : List Nat} : PE X (.Name y py) (tVar i) → KwV X kws is → KwV X (⟨nm, .Name y py, kpos⟩ :: kws) (i :: is)
def tVars : List Nat → TA
  | [] => tNil
  | i :: r => tCons (tVar i) (tVars r)
theorem KwV.pk : ∀ {kws : List Keyword} {is : List Nat}, KwV X kws is → PK X kws (tVars is)
  | _, _, .nil => pk_nil
  | _, _, .cons h r => pk_cons h (KwV.pk r)
theorem tVars_ok {R : List V → Hp → Prop} : ∀ {is : List Nat} {vs : List V}, vs.length = is.length → (∀ (j i : Nat), is[j]? = some i → ∃ v, σ[i]? = some (some v) ∧ vs[j]? = some v) → R vs H → tVars is σ H R
  | [], [], _, _, h => h
  | i :: r, v :: vs, hl, hk, h => by
    obtain ⟨w, h1, h2⟩ := hk 0 i rfl
    have e : v = w := Option.some.inj h2
    subst e
    exact ⟨v, h1, tVars_ok (R := fun ws H => R (v :: ws) H) (by simpa using hl) (fun j i' hj => by simpa using hk (j + 1) i' (by simpa using hj)) h⟩
theorem de_makeK {cls n k : Nat} {f : Addr} {fd : FuncData} {ps ks : List Str} {c : FN} {x : Str} {p pos : Pos} {kws : List Keyword} {is : List Nat} {pd : List D → List D} {gg : List Value → List Value → List Value} {gV : List V → List V → List V}
    (M : Mk X.K (G.C cls) f) (F : FnOk X.prog X.w X.K X.mg X.base (L2.CX X.prog X.w) k f fd ps (SpF G true n c)) (hr : Room (k + 1) X.A) (hg : Gl X x) (hm : X.mg x = some (.ref (G.C cls))) (hb : KBn X.K fd ps 1 ks gg gV) (hkw : KwV X kws is)
    (hperm : ∀ (H : Hp) (S : Sset) (v : V) (zs : List V) (ds : List D), zs.length = is.length → RepL G H S zs ds → ∃ ws, gV [v] zs = v :: ws ∧ 1 + ws.length = n ∧ RepL G H S ws (pd ds)) (hik : is.length = ks.length) (hps : ps.length = n)
    (hall : (backToKw pos (keywordEach kws X.env)).all (·.1.isSome) = true := by rfl) (hks : (backToKw pos (keywordEach kws X.env)).filterMap (·.1) = ks := by rfl) (hdb : (x == ("__debug__" : Str)) = false := by decide)
    (hpl : ((backTo pos (starEach [] X.env)).any (·.1) || (backToKw pos (keywordEach kws X.env)).any (·.1.isNone)) = false := by rfl) :
    DE X G W (.Call (.Name x p) [] kws pos) (mMakeK c cls is pd) := by
  refine ⟨fun pins s σ H Q I h => ?_⟩
  obtain ⟨g, env, S, P, I0, h⟩ := h
  unfold mMakeK at h
  cases q : datL env is with
  | none => simp only [q] at h; exact h.elim
  | some ds =>
    simp only [q] at h
    obtain ⟨zs0, v1, v2, v3⟩ := datL_ok I0 q
    refine wpAny_Call_Name_kw (ld_glob I hg hm ?_ hdb)
    refine PySem.W.callWith_KW0 (h₀ := X.base) I.ok.mod.kin M.kp hall ?_ hpl
    refine thn (hkw.pk.run pos pins s σ H (fun zs H1 => zs = zs0 ∧ H1 = H) I (tVars_ok v2 v1 ⟨rfl, rfl⟩)) fun ws s2 ⟨zs, H2, I2, rz, ez, eH⟩ => ⟨I2.kIn, ?_⟩
    subst ez; subst eH
    rw [hks]
    have nx : H2 (s2.heap.objs.size + 1) = none := I2.hok.fresh (Nat.le_succ _)
    have ndx : H2 s2.heap.objs.size = none := I2.hok.fresh (Nat.le_refl _)
    have ne : s2.heap.objs.size ≠ s2.heap.objs.size + 1 := Nat.ne_of_lt (Nat.lt_succ_self _)
    obtain ⟨I4, g4⟩ := I0.made (cls := cls) nx ndx ne
    have I3 := Inv.made (C := G.C cls) I2
    obtain ⟨zs', ez, ez2, ez3⟩ := hperm H2 _ (.ref (s2.heap.objs.size + 1)) zs ds v2 v3
    have L0 : ∀ b, (∃ (i : Nat) (xs : List D) (t : Tag), t ≠ .s ∧ env[i]? = some (some (.lst xs, t)) ∧ σ[i]? = some (some (.ref b))) → ∃ o, H2 b = some o := fun b ⟨i, xs, t, ht, h1, h2⟩ => by
      obtain ⟨a, k1, k2, _⟩ := I0.own i _ t ht h1
      rw [h2] at k1; injection k1 with k1; injection k1 with k1; injection k1 with k1; subst k1
      exact k2.2.some
    have LN : ∀ b, (∃ (i : Nat) (xs : List D) (t : Tag), t ≠ .s ∧ env[i]? = some (some (.lst xs, t)) ∧ σ[i]? = some (some (.ref b))) → ∀ ps, H2 b ≠ some (.tbl ps) := fun b ⟨i, xs, t, ht, h1, h2⟩ => by
      obtain ⟨a, k1, k2, _⟩ := I0.own i _ t ht h1
      rw [h2] at k1; injection k1 with k1; injection k1 with k1; injection k1 with k1; subst k1
      exact k2.2.nt
    have ex : Ext H2 (L2.upd (L2.upd H2 s2.heap.objs.size (.own (s2.heap.objs.size + 1))) (s2.heap.objs.size + 1) (.ins (G.C cls) s2.heap.objs.size [])) := (Ext.upd ndx).trans (Ext.upd (by rw [upd_ne (Ne.symm ne)]; exact nx))
    have gL : Grow (fun b => S b ∨ ∃ (i : Nat) (xs : List D) (t : Tag), t ≠ .s ∧ env[i]? = some (some (.lst xs, t)) ∧ σ[i]? = some (some (.ref b))) H2 (fun b => S b ∨ ∃ (i : Nat) (xs : List D) (t : Tag), t ≠ .s ∧ env[i]? = some (some (.lst xs, t)) ∧ σ[i]? = some (some (.ref b))) (L2.upd (L2.upd H2 s2.heap.objs.size (.own (s2.heap.objs.size + 1))) (s2.heap.objs.size + 1) (.ins (G.C cls) s2.heap.objs.size [])) := fun b hb => ⟨hb, by
      obtain ⟨o, ho⟩ := hb.elim (I0.shH b) (L0 b)
      rw [ex b o ho, ho]⟩
    have own4 := (I4.pend (s2.heap.objs.size + 1, .obj cls []) List.mem_cons_self).1
    have hsp : SpF G true n c (gV [.ref (s2.heap.objs.size + 1)] zs) (L2.upd (L2.upd H2 s2.heap.objs.size (.own (s2.heap.objs.size + 1))) (s2.heap.objs.size + 1) (.ins (G.C cls) s2.heap.objs.size [])) (fun v H' => v = .non ∧ Q (.ref (s2.heap.objs.size + 1)) H') (fun _ _ _ => False) := by
      rw [ez]
      refine ⟨by rw [List.length_cons]; omega, (fun b => S b ∨ ∃ (i : Nat) (xs : List D) (t : Tag), t ≠ .s ∧ env[i]? = some (some (.lst xs, t)) ∧ σ[i]? = some (some (.ref b))), .obj cls [] :: pd ds, some (s2.heap.objs.size + 1), rfl, ⟨fun b hb => ?_, I4.tab, fun b hb ps z => ?_⟩, ⟨_, pd ds, zs', rfl, rfl, ⟨fun hb => ?_, ⟨_, [], by rw [upd_same, List.zip_nil_right], Nat.zero_le _, .nil⟩⟩, ez3.mono gL⟩, ?_⟩
      · obtain ⟨o, ho⟩ := hb.elim (I0.shH b) (L0 b)
        exact ⟨o, ex b o ho⟩
      · rw [(gL b hb).2] at z
        exact hb.elim (fun h => I0.nt b h ps z) fun h => LN b h ps z
      · obtain ⟨o, ho⟩ := hb.elim (I0.shH _) (L0 _)
        rw [nx] at ho; cases ho
      · cases qc : c (.obj cls [] :: pd ds) with
        | bad => rw [qc] at h; exact h.elim
        | exc k fs f => rw [qc] at h; exact h.elim
        | ok d o f =>
          rw [qc] at h
          cases f with
          | none => exact h.elim
          | some f =>
            intro v H' S' P' J hf hv
            obtain ⟨f', hf, ho⟩ := hf
            injection hf with hf; subst hf
            cases d with
            | non =>
              cases f with
              | obj m fs =>
                simp only at h
                cases qn : noLstL fs with
                | false => rw [qn] at h; exact h.elim
                | true =>
                  rw [qn] at h
                  obtain ⟨I5, g5⟩ := I4.callPL (fun b hb => by obtain ⟨i, xs, t, a1, a2, a3⟩ := hb; exact ⟨i, xs, t, a1, a2, a3⟩) J ho qn
                  refine ⟨?_, h (.ref (s2.heap.objs.size + 1)) H' _ (g4.trans g5) ⟨_, rfl, I5⟩⟩
                  cases o with
                  | false => cases hv; rfl
                  | true => obtain ⟨_, _, _, hv⟩ := hv; exact hv.2.elim
              | _ => exact h.elim
            | _ => cases f <;> exact h.elim
    have r1 : Vals [V.ref (s2.heap.objs.size + 1)] [Value.ref (s2.heap.objs.size + 1)] := .cons rfl .nil
    refine wpAny_call (make_map (f := f) I2.kIn M.makes M.init (beq_iff_eq.mp M.fn) (codeAny_mono (F.run _ X.stack _ _ ⟨[Value.ref (s2.heap.objs.size + 1)], ks.zip ws⟩ (gg [Value.ref (s2.heap.objs.size + 1)] ws) _ _ _ (hr.make (G.C cls) [] (ks.zip ws)) (I3.env0.make (G.C cls) [] (ks.zip ws)) (hb.to _ _ ws I3.kIn rfl (by rw [← rz.length, v2, hik])) (hb.rel r1 rz) hsp) fun res s' hq => ?_))
    cases res with
    | error e =>
      obtain ⟨_, _, _, _, _, _, _, _, _, _, _, _, z⟩ := hq
      exact z.elim
    | ok fl =>
      cases fl with
      | ret u =>
        obtain ⟨v, H', I6, rv, ev, q3⟩ := I3.after hq
        subst ev
        exact ⟨rv, V.ref (s2.heap.objs.size + 1), H', I6, rfl, q3⟩
      | next => exact False.elim hq
      | brk => exact False.elim hq
      | cont => exact False.elim hq
end
end DL

set_option Elab.async false
set_option linter.all false
set_option maxRecDepth 100000
set_option maxHeartbeats 1000000
/-! DL22: sorted of a tuple of texts; the end of a law row. -/
namespace DL
open PySem PySem.Spec PyProof.Rows
section
variable {prog : Program} {w : World} {A : Around} {E : Value → Shared → Prop} {s : Shared}
/-- what a tuple holds, put into a new list -/
theorem collect_tup {l : Addr} {vs : List Value} {Q : List Value → Shared → Prop} (hl : s.heap.IsTuple l vs.toArray) (hz : vs.length ≤ sizeLine)
    (h : Q vs { s with heap := (s.heap.push (seqObj "list" #[] 0)).update s.heap.objs.size (Obj.mapSeq (· ++ vs.toArray)) }) : wpAny (model prog w) A (collect (.ref l)) Q E s := by
  obtain ⟨o, ho, hc, n, hd⟩ := id hl
  have hp : (s.heap.push (seqObj "list" #[] 0)).get? l = some o := Heap.get?_push_of_some _ ho
  have hN : (s.heap.push (seqObj "list" #[] 0)).get? s.heap.objs.size = some (seqObj "list" #[] 0) := Heap.get?_push_size _ rfl
  unfold collect
  refine wpAny_bind (wpAny_runValue (codeAny_builtin entry_proto_collect' ?_))
  show wpAny _ _ (do again (.builtin "list.__iadd__" ⟨[← newList [], .ref l], []⟩)) _ _ s
  refine wpAny_bind (wpAny_newList (wpAny_pure ⟨Code.quiet_builtin _ (by decide +kernel), codeAny_builtin entry_list_iadd' ?_⟩))
  show wpAny _ _ (Builtin.List.listExtendWith (.ref s.heap.objs.size) (.ref l) (.ref s.heap.objs.size)) _ _ { s with heap := s.heap.push (seqObj "list" #[] 0) }
  unfold Builtin.List.listExtendWith
  refine wpAny_bind (wpAny_typeOf (T := "tuple") ⟨o, hp, hc⟩ ?_)
  have ht : (Value.type "tuple" == Value.type "tuple") = true := by rfl
  rw [if_pos (by rw [ht]; simp)]
  refine wpAny_bind (listItems_at hp hd (wpAny_bind (listItems_at (xs := #[]) (n := 0) hN rfl ?_)))
  rw [if_neg (by simp)]
  refine wpAny_bind (listUpdate_at (xs := #[]) (n := 0) hN rfl (wpAny_pure ?_) (Nat.zero_le _) (by show (#[] ++ vs.toArray).size ≤ sizeLine + 1; simp only [Array.size_append, List.size_toArray, List.length_nil]; omega))
  show wpAny (model prog w) A (do
      let o ← load s.heap.objs.size
      match o.data with
      | .seq xs _ => pure xs.toList
      | _ => unsupported "internal:collect") Q E { s with heap := (s.heap.push (seqObj "list" #[] 0)).update s.heap.objs.size (Obj.mapSeq (· ++ vs.toArray)) }
  refine wpAny_bind (wpAny_load (get?_update_seq hN _) ?_)
  show wpAny _ _ (pure ((#[] : Array Value) ++ vs.toArray).toList) Q E _
  have e : ((#[] : Array Value) ++ vs.toArray).toList = vs := by simp
  rw [e]
  exact wpAny_pure h
theorem sorted_tup {l : Addr} {vs : List Value} {ss : List Str} {Q : Value → Shared → Prop} (hl : s.heap.IsTuple l vs.toArray) (hS : StrsAre vs ss) (h64 : vs.length < 64)
    (h : ∀ (out : Array Value) (ss' : List Str), StrsAre out.toList ss' → ss'.Perm ss → sortedS ss' = true → Q (.ref (s.heap.objs.size + 1)) { s with heap := sortedAll s.heap vs out }) :
    wpAny (model prog w) A (call (.builtin "sorted") [.ref l]) Q E s := by
  refine Calls.call_function_entry kind_sorted plain_sorted entry_sorted (args_sorted1 _) ?_
  unfold Builtin.«sorted»
  refine wpAny_bind (m := checkCount "sorted" 1 1 _) (wpAny_pure (wpAny_bind (collect_tup hl (by rw [sizeLine_eq]; omega) (wpAny_bind (wpAny_newList ?_)))))
  have hsz : ((s.heap.push (seqObj "list" #[] 0)).update s.heap.objs.size (Obj.mapSeq (· ++ vs.toArray))).objs.size = s.heap.objs.size + 1 := by rw [Heap.size_update, size_push']
  have hoL : (((s.heap.push (seqObj "list" #[] 0)).update s.heap.objs.size (Obj.mapSeq (· ++ vs.toArray))).push (seqObj "list" vs.toArray 0)).get? (s.heap.objs.size + 1) = some (seqObj "list" vs.toArray 0) := by
    rw [← hsz]; exact Heap.get?_push_size _ rfl
  show wpAny _ _ _ _ _ { s with heap := ((s.heap.push (seqObj "list" #[] 0)).update s.heap.objs.size (Obj.mapSeq (· ++ vs.toArray))).push (seqObj "list" vs.toArray 0) }
  rw [hsz]
  refine wpAny_bind (wpAny_holding (wpAny_call_entry slot_list_sort ⟨_, hoL, rfl⟩ entry_list_sort (list_sort_treeK strKind_oneLt hoL hS.keysOf (fun v₁ v₂ rest e => keyKind_strs (by rw [← e]; exact hS)) h64 fun st' hp hs => ⟨_, rfl, ?_⟩) (args_list_sort _)))
  obtain ⟨ss', h1, h2, h3⟩ := sorted_out_str hS hp hs
  exact wpAny_pure ⟨_, rfl, h _ ss' h1 h2 h3⟩
end
end DL
namespace DL
open PySem L2
/-- sorted(xs), a list or a tuple of fewer than 64 texts -/
def rSortQ (K : PySem.W.Frag) : List V → Hp → VK → Prop := fun vs H Q => ∃ (a : Addr) (xs : List Str), vs = [V.ref a] ∧ (SqL K H a (xs.map V.str) ∨ SqT K H a (xs.map V.str)) ∧ xs.length < 64 ∧
  ∀ (ys : List Str) (p : Addr), ys.Perm xs → PyProof.Rows.sortedS ys = true → H p = none → Q (.ref p) (L2.upd H p (.lst (ys.map V.str)))
section
variable {X : Cx} {G : Ctx}
theorem cr_sortQ : CallR X (.builtin "sorted") (rSortQ X.K) := by
  intro pins s σ H vs us Q I r h
  obtain ⟨a, xs, rfl, hs, h64, q⟩ := h
  rcases hs with hs | hs
  · exact cr_sortedS pins s σ H _ us Q I r ⟨a, xs, rfl, hs, h64, q⟩
  · obtain ⟨its, rv, hl, _⟩ := I.tuple hs
    rw [Vals.ref1 r]
    have hlen0 := rv.length
    rw [List.length_map] at hlen0
    refine sorted_tup hl rv.strs (by rw [← hlen0]; exact h64) fun out ys h1 h2 h3 => ?_
    obtain ⟨ep, he'⟩ := PyProof.Rows.sortedAll_at s.heap its out
    have hlen : (ys.map V.str).length ≤ sizeLine := by rw [List.length_map, h2.length_eq]; exact small64 h64
    have J := I.laid (a := s.heap.objs.size + 1) (t' := s.toks) (fun _ _ => PyProof.Rows.sortedAll_old) (Nat.le_succ _) (show ObjOk X.prog X.w (L2.upd H (s.heap.objs.size + 1) (.lst (ys.map V.str))) _ _ (.lst (ys.map V.str)) from ⟨hlen, out.toList, ep, vals_of_strs h1, he'⟩)
    exact ⟨.ref _, _, J, rfl, q ys _ h2 h3 (I.hok.fresh (Nat.le_succ _))⟩
def sortQ : D → RP
  | .lst xs => sortP (.lst xs)
  | .tup xs => sortP (.lst xs)
  | _ => none
theorem sortQ_ok {K : PySem.W.Frag} (hK : G.K = K) : P1 G (fun v H Q => rSortQ K [v] H Q) sortQ := fun H S v x d o Q hS rx e k => by
  cases x <;> simp only [sortQ, reduceCtorEq] at e
  case lst xs =>
    obtain ⟨a, ss, ev, h1, h2, h3⟩ := sortP_ok (K := K) H S v (.lst xs) d o Q hS rx e k
    exact ⟨a, ss, ev, .inl h1, h2, h3⟩
  case tup xs =>
    simp only [sortP] at e
    cases q : strsD xs with
    | none => simp [q] at e
    | some ss =>
      cases q2 : decide (ss.length < 64) with
      | false => simp [q, q2] at e
      | true =>
        simp [q, q2] at e
        obtain ⟨rfl, rfl⟩ := e
        obtain ⟨a, vs, rfl, h1, h2, h3⟩ := rx.tup hK
        obtain ⟨ev, hs⟩ := strs_rep h3 q
        subst ev
        have h64 := of_decide_eq_true q2
        refine ⟨a, ss, rfl, .inr h1, h64, fun ys p hp hs' hpn => ?_⟩
        have := sort_uniq hp hs'
        subst this
        exact k _ _ (New.lst hS hpn (rep_strs fun x hx => hs x ((sSort_perm ss).mem_iff.mp hx)) (by rw [List.length_map, (sSort_perm ss).length_eq]; exact small64 h64))
end
end DL

set_option Elab.async false
set_option linter.all false
set_option maxRecDepth 100000
set_option maxHeartbeats 1000000
/-! DL23: what is known of a def, of a class; short rules. -/
namespace DL
open PySem L2
/-- a def of the program: its name, its promise, the data of its defaults -/
structure Cal (P : Program) (w : World) (K : PySem.W.Frag) (mg : Str → Option Value) (base : Heap) (G : Ctx) (x : Str) (io : Bool) (n k : Nat) (c : FN) (dds : List D) : Prop where
  ex : ∃ (f : Addr) (fd : FuncData) (ps : List Str) (dvs : List V) (dus : List Value), FnOk P w K mg base (L2.CX P w) k f fd ps (SpF G io n c) ∧ mg x = some (.ref f) ∧ PySem.W.keepIn K (.ref f) = true ∧ Binds K fd ps dus ∧ Vals dvs dus ∧ dvs.length = dds.length ∧ ∀ (H : Hp) (S : Sset), RepL G H S dvs dds
/-- a class of the program: its number, its __init__'s promise -/
structure Mak (P : Program) (w : World) (K : PySem.W.Frag) (mg : Str → Option Value) (base : Heap) (G : Ctx) (x : Str) (cls n k : Nat) (c : FN) (dds : List D) : Prop where
  ex : ∃ (f : Addr) (fd : FuncData) (ps : List Str) (dvs : List V) (dus : List Value), Mk K (G.C cls) f ∧ FnOk P w K mg base (L2.CX P w) k f fd ps (SpF G true n c) ∧ mg x = some (.ref (G.C cls)) ∧ ps.length = n ∧ Binds K fd ps dus ∧ Vals dvs dus ∧ dvs.length = dds.length ∧ ∀ (H : Hp) (S : Sset), RepL G H S dvs dds
section
variable {X : Cx} {G : Ctx} {W : WX} {x : Str} {n k j : Nat} {c : FN} {dds : List D} {p pos : Pos} {e : Expr} {es : List Expr} {ms : List ME} {cls : Nat}
theorem de_cal (C : Cal X.prog X.w X.K X.mg X.base G x false n k c dds) (hr : Room j X.A) (hkj : k ≤ j) (hg : Gl X x) (tk : Takes X W) (ha : DA X G W (e :: es) ms) (hn : ms.length + dds.length = n) (hdb : (x == ("__debug__" : Str)) = false := by decide)
    (he : starEach (e :: es) X.env = (false, eval e X.env) :: starEach es X.env := by rfl) (hpl : (backTo pos (starEach es X.env)).any (·.1) = false := by rfl) : DE X G W (.Call (.Name x p) (e :: es) [] pos) (mCall c ms dds) := by
  obtain ⟨f, fd, ps, dvs, dus, F, hm, hk, hb, hd, hl, hdd⟩ := C.ex
  exact de_call F (hr.mono hkj) hg hm hk hb hd tk ha (by rw [hl]; exact hn) hdd hdb he hpl
theorem de_calIO {i : Nat} (C : Cal X.prog X.w X.K X.mg X.base G x true n k c dds) (hr : Room j X.A) (hkj : k ≤ j) (hg : Gl X x) (tk : Takes X W) (hv : PE X e (tVar i)) (ha : DA X G W es ms) (hn : 1 + ms.length + dds.length = n) (hdb : (x == ("__debug__" : Str)) = false := by decide)
    (he : starEach (e :: es) X.env = (false, eval e X.env) :: starEach es X.env := by rfl) (hpl : (backTo pos (starEach es X.env)).any (·.1) = false := by rfl) : DE X G W (.Call (.Name x p) (e :: es) [] pos) (mCallIO c i ms dds) := by
  obtain ⟨f, fd, ps, dvs, dus, F, hm, hk, hb, hd, hl, hdd⟩ := C.ex
  exact de_callIO F (hr.mono hkj) hg hm hk hb hd tk hv ha (by rw [hl]; exact hn) hdd hdb he hpl
theorem de_mak (C : Mak X.prog X.w X.K X.mg X.base G x cls n k c dds) (hr : Room j X.A) (hkj : k + 1 ≤ j) (hg : Gl X x) (tk : Takes X W) (ha : DA X G W (e :: es) ms) (hn : 1 + ms.length + dds.length = n) (hdb : (x == ("__debug__" : Str)) = false := by decide)
    (he : starEach (e :: es) X.env = (false, eval e X.env) :: starEach es X.env := by rfl) (hpl : (backTo pos (starEach es X.env)).any (·.1) = false := by rfl) : DE X G W (.Call (.Name x p) (e :: es) [] pos) (mMake c cls ms dds) := by
  obtain ⟨f, fd, ps, dvs, dus, M, F, hm, hps, hb, hd, hl, hdd⟩ := C.ex
  exact de_make M F (hr.mono hkj) hg hm hb hd tk ha (by rw [hl]; exact hn) hps hdd hdb he hpl
/-- a module's constant -/
theorem de_glob {v : V} {u : Value} {d : D} (hg : Gl X x) (hm : X.mg x = some u) (r : RelV v u) (rd : ∀ (H : Hp) (S : Sset), Rep G H S v d) (hd : (x == ("__debug__" : Str)) = false := by decide) : DE X G W (.Name x pos) (mC d) :=
  peImp (pe_glob hg hm r hd) fun σ H Q ⟨g, env, S, P, I, q⟩ => trE.pure I (rd H S) q rfl
/-- a class as a value -/
theorem pe_cls {C : Addr} (hg : Gl X x) (hm : X.mg x = some (.ref C)) (hd : (x == ("__debug__" : Str)) = false := by decide) : PE X (.Name x pos) (tC (.ref C)) := pe_glob hg hm rfl hd
theorem pe_ty {T : String} (hg : Gl X x) (hm : X.mg x = none) (hv : bootBuiltins x = some (.type T)) (hn : x ≠ "__name__" := by decide) (hd : (x == ("__debug__" : Str)) = false := by decide) : PE X (.Name x pos) (tC (.ty T)) := pe_bltn hg hm hv rfl hn hd
theorem un64 (r : Room k X.A) : X.A.units + 64 < cLine := by have := r.un; omega
theorem un66 (r : Room k X.A) : X.A.units + 66 < cLine := by have := r.un; omega
theorem un1 (r : Room k X.A) : X.A.units + 1 < cLine := by have := r.un; omega
end
end DL
namespace DL
open PySem L2
def listQ : D → RP := fun x => match x with | .scr _ => none | x => listP x
theorem listQ_ok {G : Ctx} {K : PySem.W.Frag} (hK : G.K = K) : P1 G (fun v H Q => ∃ p ys, [v] = [V.ref p] ∧ (SqL K H p ys ∨ SqT K H p ys) ∧ ∀ l, H l = none → Q (.ref l) (L2.upd H l (.lst ys))) listQ := listP_ok hK fun _ _ _ => trivial
def itSq (m : ME) : MI := bindI m fun d => match d with | .scr _ => none | d => itemsD d
section
variable {X : Cx} {G : Ctx} {W : WX} {x : Str} {n k j : Nat} {c : FN} {p pos : Pos} {e e1 e2 tg : Expr} {m m1 m2 : ME} {cls : Nat}
theorem di_sqQ (hK : G.K = X.K) (he : DE X G W e m) : DI X G W tg e (itSq m) := di_sq hK (fun _ => trivial) he
/-- a class of the program called with keywords -/
structure MakKw (P : Program) (w : World) (K : PySem.W.Frag) (mg : Str → Option Value) (base : Heap) (G : Ctx) (x : Str) (cls n k : Nat) (c : FN) (ks : List Str) (pd : List D → List D) : Prop where
  ex : ∃ (f : Addr) (fd : FuncData) (ps : List Str) (gg : List Value → List Value → List Value) (gV : List V → List V → List V), Mk K (G.C cls) f ∧ FnOk P w K mg base (L2.CX P w) k f fd ps (SpF G true n c) ∧ mg x = some (.ref (G.C cls)) ∧ ps.length = n ∧ KBn K fd ps 1 ks gg gV ∧
    ∀ (H : Hp) (S : Sset) (v : V) (zs : List V) (ds : List D), zs.length = ks.length → RepL G H S zs ds → ∃ ws, gV [v] zs = v :: ws ∧ 1 + ws.length = n ∧ RepL G H S ws (pd ds)
theorem de_makeKC {kws : List Keyword} {is : List Nat} {ks : List Str} {pd : List D → List D} (C : MakKw X.prog X.w X.K X.mg X.base G x cls n k c ks pd) (hr : Room j X.A) (hkj : k + 1 ≤ j) (hkw : KwV X kws is) (hg : Gl X x := by rfl) (hik : is.length = ks.length := by rfl)
    (hall : (backToKw pos (keywordEach kws X.env)).all (·.1.isSome) = true := by rfl) (hks : (backToKw pos (keywordEach kws X.env)).filterMap (·.1) = ks := by rfl) (hdb : (x == ("__debug__" : Str)) = false := by decide)
    (hpl : ((backTo pos (starEach [] X.env)).any (·.1) || (backToKw pos (keywordEach kws X.env)).any (·.1.isNone)) = false := by rfl) : DE X G W (.Call (.Name x p) [] kws pos) (mMakeK c cls is pd) := by
  obtain ⟨f, fd, ps, gg, gV, M, F, hm, hps, hb, hp⟩ := C.ex
  exact de_makeK M F (hr.mono hkj) hg hm hb hkw (fun H S v zs ds hz r => hp H S v zs ds (hz.trans hik) r) hik hps hall hks hdb hpl
/-- an own __eq__ -/
structure OwnC (P : Program) (w : World) (K : PySem.W.Frag) (mg : Str → Option Value) (base : Heap) (G : Ctx) (lefts oks : List Nat) (k : Nat) (c : FN) : Prop where
  ex : ∃ (f : Addr) (fd : FuncData) (ps : List Str), FnOk P w K mg base (L2.CX P w) k f fd ps (SpF G false 2 c) ∧ Binds K fd ps [] ∧ (∀ n, lefts.contains n = true → OwnE K (G.C n) f) ∧ (∀ n, oks.contains n = true → InsK K (G.C n)) ∧
    ∀ n d t, lefts.contains n = true → rightOk oks n d = true → tyVal G d = some t → PySem.W.notFirst K (G.C n) t = true
theorem de_ownC {neg : Bool} {op : CmpOp} {lefts oks : List Nat} (hop : op = if neg then .NotEq else .Eq) (hK : G.K = X.K) (C : OwnC X.prog X.w X.K X.mg X.base G lefts oks k c) (hr : Room j X.A) (hkj : k + 1 ≤ j) (h1 : DE X G W e1 m1) (h2 : DE X G W e2 m2) (hm : behindInMarks op e2 = false := by rfl) :
    DE X G W (.Compare e1 [op] [e2] pos) (mOwn neg c lefts oks m1 m2) := by
  obtain ⟨f, fd, ps, F, hb, ho, hi, hn⟩ := C.ex
  exact de_own hop hK F hb (hr.mono hkj) ho hi hn h1 h2 hm
theorem dt_ownC {neg : Bool} {op : CmpOp} {lefts oks : List Nat} (hop : op = if neg then .NotEq else .Eq) (hK : G.K = X.K) (C : OwnC X.prog X.w X.K X.mg X.base G lefts oks k c) (hr : Room j X.A) (hkj : k + 1 ≤ j) (h1 : DE X G W e1 m1) (h2 : DE X G W e2 m2) (hm : behindInMarks op e2 = false := by rfl) :
    DT X G W (.Compare e1 [op] [e2] pos) (mT (mOwn neg c lefts oks m1 m2)) := by
  obtain ⟨f, fd, ps, F, hb, ho, hi, hn⟩ := C.ex
  exact dt_own hop hK F hb (hr.mono hkj) ho hi hn h1 h2 hm
/-- a place in a class's body -/
def kidOf (s : Stmt) (i : Nat) : Stmt := match s with
  | .ClassDef _ _ _ b _ _ _ _ _ _ _ => b.getD i (.Pass ⟨0, 0, 0, 0⟩)
  | _ => .Pass ⟨0, 0, 0, 0⟩
end
end DL

set_option Elab.async false
set_option linter.all false
set_option maxRecDepth 100000
set_option maxHeartbeats 2000000
/-! DL24: the end of a law row whose law makes lambdas: the law is called from the very first frame. -/
namespace DL
open PySem PySem.Spec PyProof.Rows L2 LamX
open Classical in
/-- what is tracked at the law's entry: its table of code objects; the script, unless it is of the written part -/
noncomputable def entryH (K : PySem.W.Frag) (Pt a : Addr) (o : Obj) (ns : List Int) : Hp := fun b => if b = Pt then some (.tbl #[]) else if b = a ∧ K.lookup a = none then some (.frz o (.lst (ns.map V.int))) else none
section
variable {P : Program} {w : World} {K : PySem.W.Frag} {mg mb : Str → Option Value} {fa a c Pt : Addr} {s₁ : Shared} {vs : List Value} {ns : List Int}
theorem entry_at {o : Obj} {b : Addr} {u : HO} (h : entryH K Pt a o ns b = some u) : (b = Pt ∧ u = .tbl #[]) ∨ (b ≠ Pt ∧ b = a ∧ K.lookup a = none ∧ u = .frz o (.lst (ns.map V.int))) := by
  unfold entryH at h
  by_cases h1 : b = Pt
  · rw [if_pos h1] at h
    exact .inl ⟨h1, (Option.some.inj h).symm⟩
  · rw [if_neg h1] at h
    by_cases h2 : b = a ∧ K.lookup a = none
    · rw [if_pos h2] at h
      exact .inr ⟨h1, h2.1, h2.2, (Option.some.inj h).symm⟩
    · rw [if_neg h2] at h; cases h
theorem law_callD (KX : K.In s₁.heap) (hns : s₁.heap.Ns mainGlobals mg) (hb : s₁.heap.Ns builtinsNs mb) (hbb : ∀ x : Str, x ≠ "__name__" → mb x = bootBuiltins x) (hlim : s₁.heap.NoLimit) (hg : s₁.gens = #[])
    (hT : s₁.heap.get? Pt = some { cls := .none, data := .fields #[] }) (nT : K.lookup Pt = none) (C : PySem.W.CodeHd s₁.heap c Pt)
    (hbm : ∃ (bm : Addr) (ob : Obj), mg "__builtins__" = some (.ref bm) ∧ bm ≠ builtinsNs ∧ s₁.heap.get? bm = some ob ∧ ob.cls = .type "module" ∧ ob.dict = some builtinsNs ∧ ob.data = .plain)
    (ha : s₁.heap.get? a = some { cls := .type "list", data := .seq vs.toArray }) (hi : IntsAre vs ns) (hl : ns.length ≤ sizeLine)
    (G : Ctx) (hGK : G.K = K) (hGT : G.T.map (·.1) = [Pt])
    (F : ∀ (base : Heap) (H : Hp) (S : Sset), Env0 P w K mg base callerA [] s₁ H → K.In base → base.Ns mainGlobals mg → TabB base mg c Pt → ShOk G H S → Rep G H S (.ref a) (.scr ns) →
      codeAny (model P w) callerA (.call (.ref fa) ⟨[.ref a], []⟩) (CR (L2.CX P w) [] P w H s₁ (fun v _ => v = .bl true) fun _ _ _ => False) s₁) :
    codeAny (model P w) callerA (.call (.ref fa) ⟨[.ref a], []⟩) (fun r s' => r = .ok (.ret (.bool true)) ∧ OldK s₁.heap s'.heap ∧ s'.os = s₁.os ∧ AllBare s'.gens) s₁ := by
  have rv := vals_ints hi
  have lenV := hi.length
  have aPt : a ≠ Pt := fun z => by rw [z, hT] at ha; cases ha
  let o0 : Obj := { cls := .type "list", data := .seq vs.toArray }
  let H := entryH K Pt a o0 ns
  have atP : H Pt = some (.tbl #[]) := if_pos rfl
  have keepB : ∀ {b : Addr} {o : Obj}, s₁.heap.get? b = some o → (∀ xs n, o.data ≠ .seq xs n) → o.data ≠ .fields #[] → H b = none := fun {b o} e h1 h2 => by
    cases q : H b with
    | none => rfl
    | some u =>
      rcases entry_at q with ⟨e', _⟩ | ⟨_, e', _, _⟩
      · rw [e', hT] at e; cases e; exact absurd rfl h2
      · rw [e', ha] at e; cases e; exact absurd rfl (h1 _ _)
  have bs : ∀ {b : Addr} {o : Obj}, s₁.heap.get? b = some o → H b = none → (hidT s₁.heap H).get? b = some o := fun e n => hidT_get e n
  have hok : HOk P w H s₁.heap := fun b u e => by
    rcases entry_at e with ⟨rfl, rfl⟩ | ⟨_, rfl, _, rfl⟩
    · exact hT
    · exact ⟨ha, by rw [List.length_map]; exact hl, vs, _, rv, ha⟩
  have dictB : ∀ {b : Addr} {m : Str → Option Value}, s₁.heap.Ns b m → (hidT s₁.heap H).Ns b m := fun {b m} ⟨o, es, ep, e, d, r⟩ => ⟨o, es, ep, bs e (keepB e (fun xs n z => by rw [d] at z; cases z) fun z => by rw [d] at z; cases z), d, r⟩
  have hKb : K.In (hidT s₁.heap H) := fun b o e => bs (KX b o e) (by
    cases q : H b with
    | none => rfl
    | some u =>
      rcases entry_at q with ⟨rfl, _⟩ | ⟨_, rfl, nk, _⟩
      · rw [nT] at e; cases e
      · rw [nk] at e; cases e)
  have hM : L2.Mod K mg (hidT s₁.heap H) := ⟨hKb, dictB hns, ⟨mb, dictB hb, hbb⟩, let ⟨mc, h1, h2⟩ := hlim; ⟨mc, dictB h1, h2⟩⟩
  have TB : TabB (hidT s₁.heap H) mg c Pt := by
    refine ⟨?_, ?_, fun z => ?_⟩
    · obtain ⟨o, us, file, tf, flags, tg, inF, text, tt, e1, r1, r2, r3, r4⟩ := C
      exact ⟨o, us, file, tf, flags, tg, inF, text, tt, bs e1 (keepB e1 (fun xs n z => by rw [r2] at z; cases z) fun z => by rw [r2] at z; cases z; simp at r3), r1, r2, r3, r4⟩
    · obtain ⟨bm, ob, b1, b2, b3, b4, b5, b6⟩ := hbm
      refine ⟨bm, ob, b1, b2, fun q => ?_, fun q => ?_, bs b3 (keepB b3 (fun xs n z => by rw [b6] at z; cases z) fun z => by rw [b6] at z; cases z), b4, b5, b6⟩
      · obtain ⟨o, es, ep, e, hd, _⟩ := hns
        rw [q, e] at b3; cases b3
        rw [hd] at b6; cases b6
      · rw [q, hT] at b3; cases b3; cases b6
    · obtain ⟨o, es, ep, e, hd, _⟩ := hns
      rw [z, hT] at e; cases e; cases hd
  have e0 : Env0 P w K mg (hidT s₁.heap H) callerA [] s₁ H := ⟨rfl, hM, fun b o e => of_hidT e, Nat.le_of_eq (hidT_size _ _), trivial, fun b hb => absurd hb List.not_mem_nil, hok, .of_eq hg⟩
  let S : Sset := fun b => b = a ∧ K.lookup a = none
  have Hs : ∀ b, S b → H b = some (.frz o0 (.lst (ns.map V.int))) := fun b ⟨e, n⟩ => by
    subst e
    show (if b = Pt then _ else _) = _
    rw [if_neg aPt, if_pos ⟨rfl, n⟩]
  have sho : ShOk G H S := by
    refine ⟨fun b hb => ⟨_, Hs b hb⟩, fun p hp => ?_, fun b hb ps z => by rw [Hs b hb] at z; cases z⟩
    have : p.1 ∈ G.T.map (·.1) := List.mem_map_of_mem hp
    rw [hGT] at this
    have e := List.mem_singleton.mp this
    rw [e]
    exact TabS.nil atP
  have rep : Rep G H S (.ref a) (.scr ns) := by
    cases hk : K.lookup a with
    | none => exact .scr ⟨rfl, hk⟩ (Hs a ⟨rfl, hk⟩) hl
    | some o =>
      have e := KX a o hk
      rw [ha] at e; cases e
      exact .kscr (hGK ▸ ⟨_, vs.toArray, _, hk, rfl, rfl, rfl, by rw [List.size_toArray, lenV]; exact hl, by simpa using rv⟩) hl
  refine codeAny_mono (F _ H S e0 hKb (dictB hns) TB sho rep) fun r s' h => ?_
  cases r with
  | error e =>
    obtain ⟨_, _, _, _, _, _, _, _, _, _, _, _, z⟩ := h
    exact z.elim
  | ok fl =>
    cases fl with
    | next => exact False.elim h
    | brk => exact False.elim h
    | cont => exact False.elim h
    | ret u =>
      obtain ⟨v, H', os, bare, un, hok', r', q⟩ := h
      have q : v = .bl true := q
      subst q
      obtain rfl : u = Value.bool true := r'
      obtain ⟨more, hm⟩ := un.tbls Pt #[] atP
      have hm : s'.heap.get? Pt = some { cls := .none, data := .fields (#[] ++ more) } := hok' Pt _ hm
      have key : ∀ b o, b ≠ Pt → s₁.heap.get? b = some o → s'.heap.get? b = some o := fun b o nb e => by
        cases q : H b with
        | none => exact un.keep b o e q (fun z => absurd z List.not_mem_nil) (fun z => absurd z List.not_mem_nil)
        | some u =>
          rcases entry_at q with ⟨e', _⟩ | ⟨_, _, _, rfl⟩
          · exact absurd e' nb
          · obtain ⟨e1, _⟩ := hok b _ q
            obtain ⟨e2, _⟩ := hok' b _ (un.frzs b _ _ q)
            rw [e] at e1; cases e1
            exact e2
      refine ⟨rfl, ⟨fun b o e => ?_, fun b o e => ?_⟩, os, bare⟩
      · by_cases nb : b = Pt
        · subst nb
          rw [hT] at e; cases e
          exact .inr (.inl ⟨(C.tab hT).isCodeTable, rfl, #[], more, rfl, hm⟩)
        · exact .inl (key b o nb e)
      · by_cases nb : b = Pt
        · subst nb; exact ⟨_, hm⟩
        · exact ⟨o, key b o nb e⟩
end
/-- THE RULE for a def with defaults -/
theorem fn_okD {P : Program} {w : World} {K : PySem.W.Frag} {mg : Str → Option Value} {base : Heap} {G : Ctx} {x qual : Str} {st : Stmt} {f : Addr} {fd : FuncData} {dvs : List V} {kws : List (Str × V)} {N ps : List Str} {k : Nat} {io : Bool} {mb : MS} (F : FunD K x qual (defArgs st) (defBody st) (defScope st) dvs kws f fd) (Sc : FnScope N ps (defScope st)) (h0 : N ≠ []) (hio : io = true → ps ≠ [])
    (hb : ∀ (cdv : Value) (A : Around) (outer : List Env) (s : Shared) (H : Hp) (E : XK), Room k (A.deeper (PyProof.Rows.envOfC qual (defScope st) s.heap.objs.size f cdv)) →
      Takes (cxOf (L2.CX P w) P w K mg base N qual (defScope st) f cdv A outer s H E) (WD E) → DSs (cxOf (L2.CX P w) P w K mg base N qual (defScope st) f cdv A outer s H E) G (WD E) (defBody st) mb) :
    FnOk P w K mg base (L2.CX P w) (k + 1) f fd ps (SpF G io ps.length (mkFn N.length io mb)) := by
  obtain ⟨oc, od, dV, kV, doc, pm, an, cdv, ct, osl, rfl, lk, hcd, _, _⟩ := F.ex
  refine fn_of lk hcd Sc (fun vs H Q E h => h.1) fun A outer s H vs Q E hr h => ⟨_, hb cdv A outer s H E hr (takes_of rfl rfl rfl rfl), ?_⟩
  have hpl : ps.length ≤ N.length := by rw [← Sc.pre]; exact List.length_take_le' _ _
  exact sp_start (W := WD E) h hpl
/-- a def as the top names it -/
structure DefK (K : PySem.W.Frag) (x : Str) (st : Stmt) : Prop where
  ex : ∃ (f : Addr) (fd : FuncData), PySem.W.nsIn K mainGlobals x = some (some (.ref f)) ∧ Fun K x x st f fd
theorem defK {K : PySem.W.Frag} {x : Str} {st : Stmt} {f : Addr} {oc : Value} {od an : Option Addr} {osl : Array (Option Value)} {kV doc pm cdv ct : Value}
    (a : PySem.W.nsIn K mainGlobals x = some (some (.ref f))) (l : K.lookup f = some ⟨oc, od, .func (PySem.W.fnOf x x (defArgs st) (defBody st) (defScope st) .none kV doc pm an cdv ct), osl⟩) (c : PySem.W.codeIn K cdv x = true) (k : PySem.W.keepIn K (.ref f) = true) : DefK K x st :=
  ⟨_, _, a, fun_mk l c k⟩
theorem calOf {P : Program} {w : World} {K : PySem.W.Frag} {mg : Str → Option Value} {base h : Heap} {G : Ctx} {x : Str} {st : Stmt} {io : Bool} {n k : Nat} {c : FN} {ps : List Str} (X : K.In h) (N : h.Ns mainGlobals mg) (D : DefK K x st)
    (hb : ∀ f fd, Fun K x x st f fd → Binds K fd ps []) (ok : ∀ f fd, Fun K x x st f fd → FnOk P w K mg base (L2.CX P w) k f fd ps (SpF G io n c)) : Cal P w K mg base G x io n k c [] := by
  obtain ⟨f, fd, a, F⟩ := D.ex
  exact ⟨f, fd, ps, [], [], ok f fd F, PySem.W.mg_of X N a, F.kp, hb f fd F, .nil, rfl, fun _ _ => .nil⟩
end DL

set_option Elab.async false
set_option linter.all false
set_option maxRecDepth 100000
set_option maxHeartbeats 2000000
/-! DL25: a law row by its data reading, the law making lambdas. -/
namespace DL
open PySem PySem.Spec PyProof.Rows L2 LamX
/-- the law's def with its code object c and table Pt -/
structure LawD (K : PySem.W.Frag) (x : Str) (st : Stmt) (f c Pt : Addr) : Prop where
  ex : ∃ (oc : Value) (od : Option Addr) (kV doc pm : Value) (an : Option Addr) (ct : Value) (osl : Array (Option Value)) (dd : Option Addr) (vs : Array Value) (sl : Array (Option Value)) (file : Str) (tf : Tok) (flags : Int) (tg : Tok) (inF : Bool) (text : Int) (tt : Tok),
    K.lookup f = some ⟨oc, od, .func (PySem.W.fnOf x x (defArgs st) (defBody st) (defScope st) .none kV doc pm an (.ref c) ct), osl⟩ ∧ PySem.W.codeIn K (.ref c) x = true ∧
    K.lookup c = some ⟨.type "code", dd, .fields vs, sl⟩ ∧ vs[11]? = some (.ref Pt) ∧ vs.getD 18 .none = .str file tf ∧ vs.getD 7 .none = .int flags tg ∧ vs.getD 9 .none = .bool inF ∧ vs.getD 10 .none = .int text tt
  nT : K.lookup Pt = none
theorem LawD.hd {K : PySem.W.Frag} {x : Str} {st : Stmt} {f c Pt : Addr} (L : LawD K x st f c Pt) {h : Heap} (X : K.In h) : PySem.W.CodeHd h c Pt := by
  obtain ⟨oc, od, kV, doc, pm, an, ct, osl, dd, vs, sl, file, tf, flags, tg, inF, text, tt, l1, c1, l2, v11, v18, v7, v9, v10⟩ := L.ex
  refine ⟨_, vs, file, tf, flags, tg, inF, text, tt, X _ _ l2, rfl, rfl, v11, ?_, v18, v7, v9, v10, fun e => ?_⟩
  · rw [Array.getD_eq_getD_getElem?, v11]; rfl
  · rw [e, L.nT] at l2; cases l2
theorem walk_lawD {l : PySem.W.OpenLaw} {n k : Nat} {q : Program} {loose : List Str} {XP : (Str → Option Value) → Heap → Prop} {YP : World → Heap → Prop} {d : DefRec} {K : Params → PySem.W.Frag} {x : Str} {st : Stmt} {N : List Str} {mb : MS}
    (hn : l.most = some n) (hn2 : n ≤ sizeLine) (hdf : d.params.defaults = []) (hr : Room (k + 1) callerA) (hrec : ((recsOf q).any fun e => e.name == d.name) = true) (hY : ∀ (w : World) (h : Heap), YP w h → (K w.params).In h)
    (hx : d.name = x) (Sc : FnScope N [p] (defScope st))
    (hbd : ∀ (kV doc pm : Value) (an : Option Addr) (cdv ct : Value) (u : Value), bindArgs (PySem.W.fnOf x x (defArgs st) (defBody st) (defScope st) .none kV doc pm an cdv ct) ⟨[u], []⟩ = pure [(p, u)])
    (M : ∀ ns : List Int, ns.length ≤ n → ∃ f, mkFn N.length false mb [.scr ns] = .ok (.bl true) false f)
    (F : ∀ (w : World) (mg : Str → Option Value) (fa : Addr) (h : Heap), YP w h → (K w.params).In h → h.Ns mainGlobals mg → mg x = some (.ref fa) →
      ∃ (c Pt : Addr) (G : Ctx), LawD (K w.params) x st fa c Pt ∧ G.K = K w.params ∧ G.T.map (·.1) = [Pt] ∧ ∀ (base : Heap) (s : Shared) (H : Hp) (E : XK), (K w.params).In base → base.Ns mainGlobals mg → TabB base mg c Pt →
        Room k (callerA.deeper (envOfC x (defScope st) s.heap.objs.size fa (.ref c))) → (callerA.deeper (envOfC x (defScope st) s.heap.objs.size fa (.ref c))).guards = some [] →
        Takes (cxOf (L2.CX l.prog w) l.prog w (K w.params) mg base N x (defScope st) fa (.ref c) callerA [] s H E) (WD E) →
        DSs (cxOf (L2.CX l.prog w) l.prog w (K w.params) mg base N x (defScope st) fa (.ref c) callerA [] s H E) G (WD E) (defBody st) mb) :
    PySem.W.WalkO q loose XP YP l.row.toRowW d [] (fun f vs => PySem.call f vs) := by
  refine Att.attach_callB hn hdf fun w s₀ s₁ mg mb' fa o pm cd doc a vs ns G Y ho hd hcd hmg hobj hints hlen hbits hg => ?_
  have KX := hY w _ Y
  obtain ⟨c, Pt, GG, LD, hGK, hGT, hF⟩ := F w mg fa _ Y KX G.T.g (hx ▸ hmg)
  have C := LD.hd KX
  have hT : s₁.heap.get? Pt = some { cls := .none, data := .fields #[] } := by
    obtain ⟨oc, od, kV, doc, pm, an, ct, osl, dd, vs1, sl, file, tf, flags, tg, inF, text, tt, k1, c1, k4, k5, _⟩ := LD.ex
    obtain ⟨dL, hm, hn1⟩ := List.any_eq_true.mp hrec
    have hn2 : dL.name = d.name := beq_iff_eq.mp hn1
    obtain ⟨a', o', fd', c', P', h1, h2, h3, h4, h5, h6⟩ := G.T.tab dL hm
    rw [hn2, hmg] at h1
    cases h1
    have g1 := KX _ _ k1
    rw [g1] at h2
    cases h2
    cases h3
    cases h4
    obtain ⟨⟨oc, vc, e1, _, e3, e4⟩, hP⟩ := h6
    have g2 := KX _ _ k4
    rw [g2] at e1
    cases e1
    cases e3
    rw [k5] at e4
    cases e4
    exact hP
  refine law_callD KX G.T.g G.T.b G.T.builtins G.T.nolimit hg hT LD.nT C G.T.bmain hobj hints (Nat.le_trans hlen hn2) GG hGK hGT fun base H S e0 KB NB TB sho rep => ?_
  obtain ⟨oc, od, kV, doc, pm, an, ct, osl, dd, vs1, sl, file, tf, flags, tg, inF, text, tt, k1, c1, k4, k5, _⟩ := LD.ex
  refine run_ofS (CX := L2.CX l.prog w) (N := N) (ps := [p]) (us := [.ref a]) (vs := [.ref a]) k1 c1 Sc hr e0 (.of_eq (hbd kV doc pm an (.ref c) ct (.ref a))) (.cons rfl .nil) rfl fun hr' => ?_
  refine ⟨_, hF base s₁ H _ KB NB TB hr' rfl (takes_of rfl rfl rfl rfl), ?_⟩
  have hpl : 1 ≤ N.length := by
    have := Sc.pre
    cases N with
    | nil => cases this
    | cons x r => exact Nat.succ_le_succ (Nat.zero_le _)
  refine sp_start (io := false) (n := 1) (W := WD fun _ _ _ => False) (Q := fun v _ => v = V.bl true) (E := fun _ _ _ => False) ?_ hpl
  obtain ⟨f2, hM⟩ := M ns hlen
  refine ⟨rfl, S, [.scr ns], none, rfl, sho, RepL.cons rep .nil, ?_⟩
  rw [hM]
  intro v H' S' P' _ _ r
  have r : Rep GG H' S' v (.bl true) := r
  cases r
  rfl
end DL

set_option Elab.async false
set_option linter.all false
set_option maxRecDepth 100000
set_option maxHeartbeats 1000000
/-! DL26: how readings are evaluated: one equation for each combinator. -/
namespace DL
open PySem
abbrev Sl := Option (D × Tag)
section
variable {env e e1 e2 : EV} {i j : Nat} {m m1 m2 : ME} {x y d : D} {o o1 o2 : Bool} {t : Tag} {a b : MS} {k : Bool} {tt t1 t2 : MT}
theorem ev_seq (h : a env = .nx e) : mSeq a b env = b e := by
  unfold mSeq; rw [h]
theorem ev_seqR (h : a env = .rt d o e) : mSeq a b env = .rt d o e := by
  unfold mSeq; rw [h]
theorem ev_seqX {c : Nat} {fs : List D} (h : a env = .exc c fs e) : mSeq a b env = .exc c fs e := by
  unfold mSeq; rw [h]
theorem ev_set (h : m env = .ok d o e) (hf : freeE e i = true) : mSet i m env = .nx (e.set i (some (d, tg o))) := by
  unfold mSet bindS; rw [h]; unfold setE; simp only [hf]
theorem ev_if (h : tt env = .ok k e) : mIfS tt a b env = (match k with | true => a | false => b) e := by
  unfold mIfS bindTS; rw [h]; try rfl
theorem ev_ifT (h : tt env = .ok true e) : mIfS tt a b env = a e := ev_if h
theorem ev_ifF (h : tt env = .ok false e) : mIfS tt a b env = b e := ev_if h
theorem ev_ifN (h : tt env = .ok false e) : mIfS tt a mNext env = .nx e := ev_if h
theorem ev_ret (h : m env = .ok d o e) : mRet m env = .rt d o e := by
  unfold mRet bindS; rw [h]
theorem ev_expr (h : m env = .ok d o e) : mExpr m env = .nx e := by
  unfold mExpr bindS; rw [h]
theorem ev_xx {p : D → D → RP} (h1 : m1 env = .ok x o1 e1) (h2 : m2 e1 = .ok y o2 e2) (hp : p x y = some (d, o)) : mO2 p (.ex m1) (.ex m2) env = .ok d o e2 := by
  show (match m1 env with
    | .ok d _ e => bindO (.ex m2) (fun pb env => match dat (.da d) env, dat pb env with
      | some x, some y => liftP (p x y) env
      | _, _ => .bad) e
    | .exc c fs e => .exc c fs e
    | .bad => .bad) = _
  rw [h1]
  show (match m2 e1 with
    | .ok d _ e => liftP (p x d) e
    | .exc c fs e => .exc c fs e
    | .bad => .bad) = _
  rw [h2]
  show liftP (p x y) e2 = _
  rw [hp]
  rfl
theorem ev_xp {p : D → D → RP} (h1 : m1 env = .ok x o1 e1) (h2 : e1[j]? = some (some (y, t))) (hp : p x y = some (d, o)) : mO2 p (.ex m1) (.pl j) env = .ok d o e1 := by
  show (match m1 env with
    | .ok d _ e => bindO (.pl j) (fun pb env => match dat (.da d) env, dat pb env with
      | some x, some y => liftP (p x y) env
      | _, _ => .bad) e
    | .exc c fs e => .exc c fs e
    | .bad => .bad) = _
  rw [h1]
  show (match e1[j]? with
    | some (some _) => (match some x, (match e1[j]? with | some (some (d, _)) => some d | _ => none) with
      | some x, some y => liftP (p x y) e1
      | _, _ => .bad)
    | _ => .bad) = _
  rw [h2]
  show liftP (p x y) e1 = _
  rw [hp]
  rfl
theorem ev_px {p : D → D → RP} {t' : Tag} {x0 : D} (h0 : env[i]? = some (some (x0, t'))) (h2 : m2 env = .ok y o2 e2) (h1 : e2[i]? = some (some (x, t))) (hp : p x y = some (d, o)) : mO2 p (.pl i) (.ex m2) env = .ok d o e2 := by
  show (match env[i]? with
    | some (some _) => bindO (.ex m2) (fun pb env => match dat (.pl i) env, dat pb env with
      | some x, some y => liftP (p x y) env
      | _, _ => .bad) env
    | _ => .bad) = _
  rw [h0]
  show (match m2 env with
    | .ok d _ e => (match (match e[i]? with | some (some (d, _)) => some d | _ => none), some d with
      | some x, some y => liftP (p x y) e
      | _, _ => .bad)
    | .exc c fs e => .exc c fs e
    | .bad => .bad) = _
  rw [h2]
  show (match (match e2[i]? with | some (some (d, _)) => some d | _ => none), some y with
      | some x, some y => liftP (p x y) e2
      | _, _ => .bad) = _
  rw [h1]
  show liftP (p x y) e2 = _
  rw [hp]
  rfl
theorem ev_pp {p : D → D → RP} {t' : Tag} (h1 : env[i]? = some (some (x, t))) (h2 : env[j]? = some (some (y, t'))) (hp : p x y = some (d, o)) : mO2 p (.pl i) (.pl j) env = .ok d o env := by
  show (match env[i]? with
    | some (some _) => (match env[j]? with
      | some (some _) => (match (match env[i]? with | some (some (d, _)) => some d | _ => none), (match env[j]? with | some (some (d, _)) => some d | _ => none) with
        | some x, some y => liftP (p x y) env
        | _, _ => .bad)
      | _ => .bad)
    | _ => .bad) = _
  rw [h1, h2]
  show liftP (p x y) env = _
  rw [hp]
  rfl
theorem ev_x {p : D → RP} (h1 : m env = .ok x o1 e1) (hp : p x = some (d, o)) : mO1 p (.ex m) env = .ok d o e1 := by
  show (match m env with
    | .ok d _ e => liftP (p d) e
    | .exc c fs e => .exc c fs e
    | .bad => .bad) = _
  rw [h1]
  show liftP (p x) e1 = _
  rw [hp]
  rfl
theorem ev_p {p : D → RP} (h1 : env[i]? = some (some (x, t))) (hp : p x = some (d, o)) : mO1 p (.pl i) env = .ok d o env := by
  show (match env[i]? with
    | some (some _) => (match (match env[i]? with | some (some (d, _)) => some d | _ => none) with
      | some x => liftP (p x) env
      | _ => .bad)
    | _ => .bad) = _
  rw [h1]
  show liftP (p x) env = _
  rw [hp]
  rfl
theorem ev_T {k : Bool} (h : m env = .ok (.bl k) o e) : mT m env = .ok k e := by
  unfold mT; rw [h]
theorem ev_not (h : tt env = .ok k e) : mNotT tt env = .ok (!k) e := by
  unfold mNotT bindT; rw [h]
theorem ev_orT (h : t1 env = .ok true e) : mOrT t1 t2 env = .ok true e := by
  unfold mOrT bindT; rw [h]
theorem ev_orF (h : t1 env = .ok false e) : mOrT t1 t2 env = t2 e := by
  unfold mOrT bindT; rw [h]
theorem ev_andT (h : t1 env = .ok true e) : mAndT t1 t2 env = t2 e := by
  unfold mAndT bindT; rw [h]
theorem ev_andF (h : t1 env = .ok false e) : mAndT t1 t2 env = .ok false e := by
  unfold mAndT bindT; rw [h]
theorem ev_ifE (h : tt env = .ok k e) : mIf tt m1 m2 env = (match k with | true => m1 | false => m2) e := by
  unfold mIf bindTE; rw [h]; try rfl
theorem ev_vs (h : env[i]? = some (some (d, .s))) : mV i env = .ok d false env := by
  unfold mV; rw [h]
theorem ev_vo (h : env[i]? = some (some (d, .o))) : mV i env = .ok d false (env.set i (some (d, .s))) := by
  unfold mV; rw [h]
theorem ev_un {tgt : Tgt} (h : m env = .ok d false e) (hs : setTg tgt d e = some e1) : mUn tgt m env = .nx e1 := by
  unfold mUn bindS; rw [h]; simp only [hs]
/-! ### lists of expressions -/
theorem ev_nil : evL [] env = .ok [] env := rfl
variable {ms : List ME} {ds dds : List D} {c : FN}
theorem ev_cons (h1 : m env = .ok d o e1) (h2 : evL ms e1 = .ok ds e2) : evL (m :: ms) env = .ok (d :: ds) e2 := by
  simp only [evL, h1, h2]
theorem ev_bindL {k : List D → ME} (h : evL ms env = .ok ds e) : bindL ms k env = k ds e := by
  unfold bindL; rw [h]
theorem ev_tup (h : evL ms env = .ok ds e) : mTup ms env = .ok (.tup ds) false e := by
  unfold mTup; rw [ev_bindL h]; rfl
theorem ev_lst (h : evL ms env = .ok ds e) : mLst ms env = .ok (.lst ds) true e := by
  unfold mLst; rw [ev_bindL h]; rfl
theorem ev_call {f : Option D} (h : evL ms env = .ok ds e) (hc : c (ds ++ dds) = .ok d o f) : mCall c ms dds env = .ok d o e := by
  unfold mCall; rw [ev_bindL h, hc]; rfl
theorem ev_callIO {x0 x f : D} {t0 : Tag} (h0 : env[i]? = some (some (x0, t0))) (h : evL ms env = .ok ds e) (h1 : e[i]? = some (some (x, t))) (ht : t ≠ .s) (hc : c (x :: (ds ++ dds)) = .ok d o (some f)) : mCallIO c i ms dds env = .ok d o (e.set i (some (f, t))) := by
  show (match env[i]? with
    | some (some _) => bindL ms (fun ds env => match env[i]? with
      | some (some (d, t)) => match t with
        | .s => .bad
        | _ => ansE (some i) (c (d :: (ds ++ dds))) env
      | _ => .bad) env
    | _ => .bad) = _
  rw [h0]
  show bindL ms _ env = _
  rw [ev_bindL h]
  simp only [h1]
  have key : ansE (some i) (c (x :: (ds ++ dds))) e = .ok d o (e.set i (some (f, t))) := by
    unfold ansE
    simp only [h1, hc]
  cases t with
  | s => exact absurd rfl ht
  | p => exact key
  | o => exact key
theorem ev_make {cls : Nat} {f : D} (h : evL ms env = .ok ds e) (hc : c (.obj cls [] :: (ds ++ dds)) = .ok .non false (some f)) : mMake c cls ms dds env = .ok f true e := by
  unfold mMake; rw [ev_bindL h]; unfold makeE; rw [hc]
theorem ev_makeX {cls n : Nat} {fs : List D} {f : Option D} (h : evL ms env = .ok ds e) (hc : c (.obj cls [] :: (ds ++ dds)) = .exc n fs f) : mMake c cls ms dds env = .exc n fs e := by
  unfold mMake; rw [ev_bindL h]; unfold makeE; rw [hc]
theorem ev_mt {p : D → List D → Option (D × D)} {xs : List D} {t0 : Tag} {d' : D} (h0 : env[i]? = some (some (.lst xs, t0))) (ht0 : t0 ≠ .s) (h : evL ms env = .ok ds e) (h1 : e[i]? = some (some (d, t))) (ht : t ≠ .s) (hp : p d ds = some (d', x)) : mMt i p ms env = .ok x false (e.set i (some (d', t))) := by
  have hi : isLst env i = true := by
    unfold isLst
    rw [h0]
    cases t0 <;> first | rfl | exact absurd rfl ht0
  unfold mMt
  simp only [hi]
  rw [ev_bindL h]
  have hd : datI e i = d := by
    unfold datI; rw [h1]
  rw [hd, hp]
  unfold updM
  simp only [h1]
/-! ### arithmetic -/
theorem modP_i {a b : Int} (h : b ≠ 0) : modP (.int a) (.int b) = some (.int (a.fmod b), false) := by
  show (match decide (b ≠ 0) with | true => some (D.int (a.fmod b), false) | false => none) = _
  rw [decide_eq_true h]
theorem divP_i {a b : Int} (h : b ≠ 0) (h2 : b.natAbs < 1073741824) : divP (.int a) (.int b) = some (.int (a.fdiv b), false) := by
  show (match (decide (b ≠ 0) && decide (b.natAbs < 1073741824)) with | true => some (D.int (a.fdiv b), false) | false => none) = _
  rw [decide_eq_true h, decide_eq_true h2]; rfl
theorem mulP_i {a b : Int} (h : -(2 ^ 64) < b ∧ b < 2 ^ 64) : mulP (.int a) (.int b) = some (.int (a * b), false) := by
  show (match cMul a b with | true => some (D.int (a * b), false) | false => none) = _
  have : cMul a b = true := by
    unfold cMul
    rw [decide_eq_true h.1, decide_eq_true h.2]
    simp
  rw [this]
theorem mulP_j {a b : Int} (h : -(2 ^ 64) < a ∧ a < 2 ^ 64) : mulP (.int a) (.int b) = some (.int (a * b), false) := by
  show (match cMul a b with | true => some (D.int (a * b), false) | false => none) = _
  have : cMul a b = true := by
    unfold cMul
    rw [decide_eq_true h.1, decide_eq_true h.2]
    simp
  rw [this]
theorem powP_i {a : Int} {k : Nat} (h : a.natAbs < 2 ^ 64) (hk : k ≤ 1000000) : powP (.int a) (.int k) = some (.int (a ^ k), false) := by
  show (match cPow a k with | true => some (D.int (a ^ (k : Int).toNat), false) | false => none) = _
  have : cPow a k = true := by
    unfold cPow
    rw [decide_eq_true h, decide_eq_true (by omega), decide_eq_true (by omega)]
    rfl
  rw [this]
  rfl
theorem atI_nat {α : Type} {xs : List α} {i : Int} (h0 : 0 ≤ i) (h1 : i < xs.length) : L2.atI xs i = xs[i.toNat]? := by
  unfold L2.atI L2.ixN
  rw [if_pos h0, if_pos h1]
  rfl
theorem ixP_l {ds : List D} {i : Int} {x : D} (h0 : 0 ≤ i) (h : ds[i.toNat]? = some x) : ixP (.lst ds) (.int i) = some (x, false) := by
  have hl := (List.getElem?_eq_some_iff.mp h).1
  show (L2.atI ds i).map (fun d => (d, false)) = _
  rw [atI_nat h0 (by omega), h]
  rfl
end
end DL

set_option Elab.async false
set_option linter.all false
set_option maxRecDepth 100000
set_option maxHeartbeats 1000000
/-! DL27: sum of a list of lists, by the start []. -/
namespace DL
open PySem PySem.Spec PyProof.Rows
section
variable {prog : Program} {w : World} {A : Around} {R : Result → Shared → Prop} {E : Value → Shared → Prop}
def preCat (val : List (List Value)) (i : Nat) : List Value := (val.take i).flatten
theorem preCat_succ {val : List (List Value)} {i : Nat} {ys : List Value} (h : val[i]? = some ys) : preCat val (i + 1) = preCat val i ++ ys := by
  unfold preCat
  have hi := (List.getElem?_eq_some_iff.mp h).1
  rw [List.take_add_one, h, List.flatten_append]
  simp
theorem preCat_le (val : List (List Value)) (i : Nat) : (preCat val i).length ≤ val.flatten.length := by
  unfold preCat
  have h : val = val.take i ++ val.drop i := (List.take_append_drop i val).symm
  have e : val.flatten.length = (val.take i).flatten.length + (val.drop i).flatten.length := by
    rw [← List.length_append, ← List.flatten_append, ← h]
  omega
theorem sum_loopL (hh : A.handled = none) {h0 : Heap} {I ax S T0 : Addr} {items : Array Value} {val : List (List Value)} (hne : ax ≠ I) (hIs : h0.objs.size ≤ I) (hI0 : h0.get? I = none) (hS0 : h0.get? S = none) (hax : ∃ o, h0.get? ax = some o) (hT0 : ∃ o, h0.get? T0 = some o)
    (hval : ∀ (i : Nat) (v : Value), items[i]? = some v → ∃ (b : Addr) (ys : List Value) (m : Nat), v = Value.ref b ∧ val[i]? = some ys ∧ PySem.IsL h0 b ys.toArray m) (hlen : val.length = items.size) (hsz : val.flatten.length ≤ sizeLine) (hSI : S ≠ I) :
    ∀ (k i : Nat) (s : Shared) (T : Addr) (m c : Nat), items.size - i = k → i ≤ items.size → s.heap.IsListIter I ax i → s.heap.IsList ax items → (∀ b o, h0.get? b = some o → s.heap.get? b = some o) →
    PySem.IsL s.heap T (preCat val i).toArray m → T ≠ S → T ≠ I → (0 < i → h0.objs.size ≤ T) → s.heap.get? S = some { cls := .type "list", dict := none, data := .seq #[.ref T] c, slots := #[] } →
    (∀ h' tk T' m', (∀ b o, h0.get? b = some o → h'.get? b = some o) → PySem.IsL h' T' val.flatten.toArray m' → (0 < items.size → h0.objs.size ≤ T') → R (.ok (.ret (.ref T'))) { s with heap := h', toks := tk }) →
    codeAny (model prog w) A (.builtin "sum.loop" ⟨[.ref I, .ref S, rawInt 2, rawInt 0], []⟩) R s := by
  have W := Walks.list (prog := prog) (w := w) (A := A.in1) hh I ax hne items
  intro k
  induction k with
  | zero =>
    intro i s T m c hk hi hit hl hk0 hT hTS hTI hTn hS hR
    have hin : i = items.size := by omega
    subst hin
    refine codeAny_builtin F.entry_sum_loop ?_
    rw [Around.under_plainId F.plain_sum_loop _]
    show wpAny _ A.in1 (seqItems? (.ref S) >>= _) _ _ s
    refine wpAny_bind (wpAny_seqItems hS rfl ?_)
    show wpAny _ A.in1 (tryCatch (pyNext (.ref I)) _ >>= _) _ _ s
    refine wpAny_bind (wpAny_tryCatch (W.done s _ _ ⟨hit, hl⟩ fun h' tk hk' => ?_))
    refine wpAny_pure (hR h' tk T m (fun b o e => hk' b o (fun z => ?_) (hk0 b o e)) ?_ hTn)
    · rw [List.mem_singleton] at z
      rw [z, hI0] at e; cases e
    · have e2 : preCat val items.size = val.flatten := by
        unfold preCat
        rw [← hlen, List.take_length]
      rw [← e2]
      exact hk' T _ (fun z => hTI (List.mem_singleton.mp z)) hT
  | succ k ih =>
    intro i s T m c hk hi hit hl hk0 hT hTS hTI hTn hS hR
    have hlt : i < items.size := by omega
    refine codeAny_builtin F.entry_sum_loop ?_
    rw [Around.under_plainId F.plain_sum_loop _]
    show wpAny _ A.in1 (seqItems? (.ref S) >>= _) _ _ s
    refine wpAny_bind (wpAny_seqItems hS rfl ?_)
    show wpAny _ A.in1 (tryCatch (pyNext (.ref I)) _ >>= _) _ _ s
    refine wpAny_bind (wpAny_tryCatch (W.item i s _ _ hlt ⟨hit, hl⟩ fun v h' tk hP hst' hk' => ?_))
    obtain ⟨b, ys, mb, rfl, hv, hb⟩ := hval i v hP
    have nI : ∀ {b : Addr} {o : Obj}, h0.get? b = some o → b ∉ [I] := fun {b o} e z => by
      rw [List.mem_singleton] at z
      rw [z, hI0] at e; cases e
    have hS' := hk' S _ (fun z => hSI (List.mem_singleton.mp z)) hS
    have hT' := hk' T _ (fun z => hTI (List.mem_singleton.mp z)) hT
    have hb' := hk' b _ (nI hb) (hk0 b _ hb)
    have hk0' : ∀ b o, h0.get? b = some o → h'.get? b = some o := fun b o e => hk' b o (nI e) (hk0 b o e)
    show wpAny _ A.in1 ((holding [Value.ref b] (binaryOp .Add (.ref T) (.ref b))).attempt >>= _) _ _ _
    have hz : (preCat val i).toArray.size + ys.toArray.size ≤ sizeLine := by
      have h1 := preCat_le val (i + 1)
      rw [preCat_succ hv, List.length_append] at h1
      simp only [List.size_toArray]
      omega
    refine wpAny_bind (wpAny_attempt (wpAny_holding (PySem.P.add_list hT' hb' ?_ hz)))
    show wpAny _ A.in1 (updateSeq S (fun _ => #[.ref h'.objs.size]) >>= _) _ _ _
    have hSp : (h'.push { cls := .type "list", data := .seq ((preCat val i).toArray ++ ys.toArray) }).get? S = some { cls := .type "list", dict := none, data := .seq #[.ref T] c, slots := #[] } := Heap.get?_push_of_some _ hS'
    refine wpAny_bind (wpAny_updateSeq hSp rfl ?_)
    have hS2 := Heap.get?_update_self (Obj.mapSeq fun _ => #[Value.ref h'.objs.size]) hSp rfl
    refine wpAny_bind (wpAny_letGo ?_)
    have nS : h'.objs.size ≠ S := fun z => Nat.lt_irrefl _ (z ▸ Heap.lt_size hS')
    have hItI : ∃ o, h'.get? I = some o := by obtain ⟨o, ho, _⟩ := hst'.1; exact ⟨o, ho⟩
    have nI2 : h'.objs.size ≠ I := fun z => by obtain ⟨o, ho⟩ := hItI; exact Nat.lt_irrefl _ (z ▸ Heap.lt_size ho)
    have keep : ∀ b o, b ≠ S → h'.get? b = some o → (((h'.push { cls := .type "list", data := .seq ((preCat val i).toArray ++ ys.toArray) }).update S (Obj.mapSeq fun _ => #[Value.ref h'.objs.size])).update S (Obj.mapSeq fun _ => #[Value.ref h'.objs.size])).get? b = some o := fun b o hb e =>
      (Heap.get?_update_other _ _ (Ne.symm hb)).trans ((Heap.get?_update_other _ _ (Ne.symm hb)).trans (Heap.get?_push_of_some _ e))
    have nS0 : ∀ {b : Addr} {o : Obj}, h0.get? b = some o → b ≠ S := fun {b o} e z => by rw [z, hS0] at e; cases e
    obtain ⟨oa, hoa⟩ := hax
    refine wpAny_bind (wpAny_updateSeq hS2 rfl (wpAny_pure ⟨plainId_quiet F.plain_sum_loop _, ih (i + 1) _ h'.objs.size 0 _ (by omega) hlt ?_ ?_ ?_ ?_ nS nI2 (fun _ => ?_) (Heap.get?_update_self _ hS2 rfl) fun h'' tk'' T'' m'' a1 a2 a3 => ?_⟩))
    · exact hst'.1.at fun o e => keep I o (Ne.symm hSI) e
    · exact hst'.2.at fun o e => keep ax o (nS0 hoa) e
    · exact fun b o e => keep b o (nS0 e) (hk0' b o e)
    · rw [preCat_succ hv]
      refine (Heap.get?_update_other _ _ (Ne.symm nS)).trans ((Heap.get?_update_other _ _ (Ne.symm nS)).trans ((Heap.get?_push_size _ rfl).trans ?_))
      simp
    · obtain ⟨o, ho⟩ := hItI
      exact Nat.le_of_lt (Nat.lt_of_le_of_lt hIs (Heap.lt_size ho))
    · exact hR h'' tk'' T'' m'' a1 a2 a3
theorem sub_list_bytes' : isSubtype (.type "list") (.type "bytes") = pure false := by rw [isSubtype_type]; kernel_rfl
theorem sub_list_bytearray' : isSubtype (.type "list") (.type "bytearray") = pure false := by rw [isSubtype_type]; kernel_rfl
theorem args_sum2 (a b : Value) : argsOk "sum" ⟨[a, b], []⟩ := by unfold argsOk; kernel_rfl
theorem sum_lists {s : Shared} {x st : Addr} {items : Array Value} {val : List (List Value)} {mx mst : Nat} {Q : Value → Shared → Prop} (hh : A.handled = none) (hl : PySem.IsL s.heap x items mx) (hst : PySem.IsL s.heap st #[] mst)
    (hval : ∀ (i : Nat) (v : Value), items[i]? = some v → ∃ (b : Addr) (ys : List Value) (m : Nat), v = Value.ref b ∧ val[i]? = some ys ∧ PySem.IsL s.heap b ys.toArray m) (hlen : val.length = items.size) (hsz : val.flatten.length ≤ sizeLine)
    (h : ∀ h' tk T' m', (∀ b o, s.heap.get? b = some o → h'.get? b = some o) → PySem.IsL h' T' val.flatten.toArray m' → (0 < items.size → s.heap.objs.size ≤ T') → Q (.ref T') { s with heap := h', toks := tk }) :
    wpAny (model prog w) A (call (.builtin "sum") [.ref x, .ref st]) Q E s := by
  refine call_function_tree F.kind_sum F.plain_sum F.entry_sum (args_sum2 _ _) ?_
  unfold Builtin.«sum»
  simp only [List.length_cons, List.length_nil]
  rw [if_neg (by decide)]
  refine wpAny_bind (wpAny_of_eq (show Builtin.Builtins.bindParams "sum" ["start"] 0 ⟨[.ref st], []⟩ = pure [some (.ref st)] from rfl) ?_)
  have hIL : s.heap.IsList x items := ⟨_, hl, rfl, mx, rfl⟩
  refine wpAny_bind (wpAny_pyIter_list hIL ?_)
  refine wpAny_bind (wpAny_pure ?_)
  have hst1 : PySem.IsL (s.heap.push { cls := .type "list_iterator", data := .fields #[.ref x, .int 0 0] }) st #[] mst := Heap.get?_push_of_some _ hst
  simp only [List.forIn_cons, List.forIn_nil]
  refine wpAny_bind (wpAny_bind (wpAny_bind (wpAny_isInstance (T := "list") (b := false) ⟨_, hst1, rfl⟩ sub_list_str ?_)))
  simp only [Bool.false_eq_true, if_false]
  refine wpAny_pure (wpAny_bind (wpAny_bind (wpAny_isInstance (T := "list") (b := false) ⟨_, hst1, rfl⟩ sub_list_bytes' ?_)))
  simp only [Bool.false_eq_true, if_false]
  refine wpAny_pure (wpAny_bind (wpAny_bind (wpAny_isInstance (T := "list") (b := false) ⟨_, hst1, rfl⟩ sub_list_bytearray' ?_)))
  simp only [Bool.false_eq_true, if_false]
  refine wpAny_pure (wpAny_pure ?_)
  refine wpAny_bind (wpAny_newObj_type ?_)
  have e1 : s.heap.get? s.heap.objs.size = none := Heap.get?_none_of_le (Nat.le_refl _)
  have sz1 : (s.heap.push { cls := .type "list_iterator", data := .fields #[.ref x, .int 0 0] }).objs.size = s.heap.objs.size + 1 := Heap.size_push _ _
  have e2 : s.heap.get? (s.heap.push { cls := .type "list_iterator", data := .fields #[.ref x, .int 0 0] }).objs.size = none := by
    rw [sz1]; exact Heap.get?_none_of_le (Nat.le_succ _)
  have nx : x ≠ s.heap.objs.size := Nat.ne_of_lt (Heap.lt_size hl)
  have n1 : s.heap.objs.size ≠ (s.heap.push { cls := .type "list_iterator", data := .fields #[.ref x, .int 0 0] }).objs.size := by rw [sz1]; omega
  have nst : st ≠ (s.heap.push { cls := .type "list_iterator", data := .fields #[.ref x, .int 0 0] }).objs.size := by
    rw [sz1]
    exact Nat.ne_of_lt (Nat.lt_succ_of_lt (Heap.lt_size hst))
  refine wpAny_pure ⟨plainId_quiet F.plain_sum_loop _, sum_loopL (h0 := s.heap) (I := s.heap.objs.size) (ax := x) (T0 := st) hh nx (Nat.le_refl _) e1 e2 ⟨_, hl⟩ ⟨_, hst⟩ hval hlen hsz (Ne.symm n1) items.size 0 _ st mst 0 rfl (Nat.zero_le _) ?_ ?_ ?_ ?_ nst (Nat.ne_of_lt (Heap.lt_size hst)) (fun z => absurd z (Nat.lt_irrefl _)) (Heap.get?_push_size _ rfl) fun h' tk T' m' a1 a2 a3 => ?_⟩
  · exact ⟨_, Heap.get?_push_of_some _ (Heap.get?_push_size _ rfl), rfl, rfl⟩
  · exact ⟨_, Heap.get?_push_of_some _ (Heap.get?_push_of_some _ hl), rfl, mx, rfl⟩
  · exact fun b o e => Heap.get?_push_of_some _ (Heap.get?_push_of_some _ e)
  · exact Heap.get?_push_of_some _ hst1
  · exact h h' tk T' m' a1 a2 a3
end
end DL
namespace DL
open PySem PySem.Spec PyProof.Rows L2
section
variable {X : Cx} {G : Ctx}
/-- the items of lists -/
def LL (H : Hp) : List V → List (List V) → Prop
  | [], [] => True
  | v :: vs, y :: ys => (∃ a, v = .ref a ∧ H a = some (.lst y)) ∧ LL H vs ys
  | _, _ => False
def rSumL : List V → Hp → VK → Prop := fun vs H Q => ∃ (a b : Addr) (xs : List V) (yss : List (List V)), vs = [V.ref a, V.ref b] ∧ H a = some (.lst xs) ∧ H b = some (.lst []) ∧ LL H xs yss ∧ 0 < xs.length ∧ yss.flatten.length ≤ sizeLine ∧ ∀ p, H p = none → Q (.ref p) (L2.upd H p (.lst yss.flatten))
theorem LL.len {H : Hp} : ∀ {vs : List V} {yss : List (List V)}, LL H vs yss → yss.length = vs.length
  | [], [], _ => rfl
  | _ :: _, _ :: _, h => by rw [List.length_cons, List.length_cons, LL.len h.2]
theorem LL.vals {pins : List (Addr × Obj)} {s : Shared} {σ : L2.St} {H : Hp} (I : Inv X pins σ H s) : ∀ {vs : List V} {yss : List (List V)} {us : List Value}, LL H vs yss → Vals vs us →
    ∃ val : List (List Value), val.length = us.length ∧ Vals yss.flatten val.flatten ∧ ∀ (i : Nat) (v : Value), us[i]? = some v → ∃ (b : Addr) (ys : List Value) (m : Nat), v = Value.ref b ∧ val[i]? = some ys ∧ PySem.IsL s.heap b ys.toArray m
  | [], [], _, _, r => by
    cases r
    exact ⟨[], rfl, .nil, fun i v e => by simp at e⟩
  | v :: vs, y :: yss, us, h, r => by
    obtain ⟨⟨a, rfl, ha⟩, h2⟩ := h
    cases r with
    | cons r1 r2 =>
      cases r1
      obtain ⟨z, its, n, rv, hl, e⟩ := I.lstM ha
      obtain ⟨val, k1, k2, k3⟩ := LL.vals I h2 r2
      refine ⟨its :: val, by rw [List.length_cons, List.length_cons, k1], by rw [List.flatten_cons, List.flatten_cons]; exact rv.append k2, fun i v q => ?_⟩
      cases i with
      | zero => cases q; exact ⟨a, its, n, rfl, rfl, e⟩
      | succ i => exact k3 i v q
theorem cr_sumL (hc : X.calm = true) : CallR X (.builtin "sum") rSumL := by
  intro pins s σ H vs us Q I r h
  obtain ⟨a, b, xs, yss, rfl, ha, hb, hl, h0, hz, q⟩ := h
  cases r with
  | cons r1 r =>
    cases r with
    | cons r2 r =>
      cases r
      cases r1
      cases r2
      obtain ⟨z, its, n, rv, hlen, e⟩ := I.lstM ha
      obtain ⟨z2, its2, n2, rv2, hlen2, e2⟩ := I.lstM hb
      have hi2 : its2 = [] := List.length_eq_zero_iff.mp hlen2.symm
      subst hi2
      obtain ⟨val, k1, k2, k3⟩ := hl.vals I rv
      have hfl : val.flatten.length ≤ sizeLine := by rw [← k2.length]; exact hz
      refine sum_lists (A := X.A) (items := its.toArray) (val := val) (I.ok.hd hc) e e2 (fun i v h => k3 i v (by simpa using h)) (by rw [k1, List.size_toArray]) hfl fun h' tk T' m' a1 a2 a3 => ?_
      have hT : s.heap.objs.size ≤ T' := a3 (by rw [List.size_toArray]; omega)
      have J := I.laid (a := T') (t' := tk) a1 hT (show ObjOk X.prog X.w (L2.upd H T' (.lst yss.flatten)) h' T' (.lst yss.flatten) from ⟨hz, val.flatten, m', k2, a2⟩)
      exact ⟨.ref T', _, J, rfl, q T' (I.hok.fresh hT)⟩
def lstsD : List D → Option (List (List D))
  | [] => some []
  | d :: r => match d with
    | .lst xs => (match lstsD r with | some l => some (xs :: l) | none => none)
    | _ => none
theorem lsts_rep {H : Hp} {S : Sset} : ∀ {vs : List V} {ds : List D} {l : List (List D)}, RepL G H S vs ds → lstsD ds = some l → ∃ yss, LL H vs yss ∧ RepL G H S yss.flatten l.flatten
  | _, _, _, .nil, e => by cases e; exact ⟨[], trivial, .nil⟩
  | _, _, _, .cons (d := d) (ds := ds) r1 r2, e => by
    cases d with
    | lst xs =>
      cases q : lstsD ds with
      | none => simp [lstsD, q] at e
      | some l2 =>
        simp only [lstsD, q, Option.some.injEq] at e
        subst e
        obtain ⟨yss, h1, h2⟩ := lsts_rep r2 q
        cases r1 with
        | lst s h l r => exact ⟨_ :: yss, ⟨⟨_, rfl, h⟩, h1⟩, by rw [List.flatten_cons, List.flatten_cons]; exact r.append h2⟩
    | _ => simp [lstsD] at e
def sumLP : D → D → RP
  | .lst ds, .lst [] => match lstsD ds with
    | some l => match decide (0 < ds.length) && decide (l.flatten.length ≤ sizeLine) with
      | true => some (.lst l.flatten, true)
      | false => none
    | none => none
  | _, _ => none
theorem sumLP_ok : P2 G (fun v w H Q => rSumL [v, w] H Q) sumLP := fun H S v w x y d o Q hS rx ry e k => by
  cases x with
  | lst ds =>
    cases y with
    | lst es =>
      cases es with
      | nil =>
        cases q : lstsD ds with
        | none => simp [sumLP, q] at e
        | some l =>
          simp only [sumLP, q] at e
          split at e
          · rename_i hc
            cases e
            obtain ⟨c1, c2⟩ := Bool.and_eq_true_iff.mp hc
            have c1 := of_decide_eq_true c1
            have c2 := of_decide_eq_true c2
            obtain ⟨a, vs, rfl, h1, h2, h3⟩ := rx.lst
            obtain ⟨b, ws, rfl, q1, q2, q3⟩ := ry.lst
            cases q3
            obtain ⟨yss, hl, hr⟩ := lsts_rep h3 q
            exact ⟨a, b, vs, yss, rfl, h1, q1, hl, by rw [h3.length]; exact c1, by rw [hr.length]; exact c2, fun p hp => k _ _ (New.lst hS hp hr (by rw [hr.length]; exact c2))⟩
          · cases e
      | cons _ _ => simp [sumLP] at e
    | _ => simp [sumLP] at e
  | _ => simp [sumLP] at e
end
end DL

set_option Elab.async false
set_option linter.all false
set_option maxRecDepth 100000
set_option maxHeartbeats 1000000
/-! DL28: sorted of data of any kind; sorted by key=. -/
namespace DL
open PySem PySem.W PySem.Calls PyProof.Rows
section
variable {prog : Program} {w : World} {A : Around} {E : Value → Shared → Prop} {s : Shared} {vs : List Value}
/-- what is walked is put into a new list -/
def Colls (prog : Program) (w : World) (s : Shared) (l : Addr) (vs : List Value) : Prop :=
  ∀ (A : Around) (E : Value → Shared → Prop) (Q : List Value → Shared → Prop), Q vs { s with heap := (s.heap.push (seqObj "list" #[] 0)).update s.heap.objs.size (Obj.mapSeq (· ++ vs.toArray)) } → wpAny (model prog w) A (collect (.ref l)) Q E s
theorem sorted_of_sortC {l : Addr} {kw : List (Str × Value)} {Q : Value → Shared → Prop} (hc : Colls prog w s l vs) (hL : vs.length ≤ sizeLine) (ha1 : argsOk "sorted" ⟨[.ref l], kw⟩) (ha2 : ∀ x, argsOk "list.sort" ⟨[.ref x], kw⟩)
    (body : ∀ E' : Value → Shared → Prop, wpAny (model prog w) A.in1.in1 (Builtin.«list.sort» ⟨[.ref (s.heap.objs.size + 1)], kw⟩) (fun f s' => f = .done (.ret .none) ∧ Q (.ref (s.heap.objs.size + 1)) s') E' { s with heap := copyHeap s.heap vs }) :
    wpAny (model prog w) A (call (.builtin "sorted") [.ref l] kw) Q E s := by
  refine call_function_entry_kw kind_sorted plain_sorted entry_sorted ha1 ?_
  unfold Builtin.«sorted»
  refine wpAny_bind (m := checkCount "sorted" 1 1 _) (wpAny_pure ?_)
  refine wpAny_bind (hc _ _ _ ?_)
  refine wpAny_bind (wpAny_newList ?_ hL)
  have hsz : ((s.heap.push (seqObj "list" #[] 0)).update s.heap.objs.size (Obj.mapSeq (· ++ vs.toArray))).objs.size = s.heap.objs.size + 1 := by
    rw [Heap.size_update, size_push']
  show wpAny _ _ _ _ _ { s with heap := copyHeap s.heap vs }
  rw [hsz]
  refine wpAny_bind (wpAny_holding (wpAny_call_entry_kw slot_list_sort ⟨_, copyHeap_at s.heap vs, rfl⟩ entry_list_sort ?body (ha2 _)))
  case body =>
    show wpAny (model prog w) A.in1.in1 (Builtin.«list.sort» ⟨[.ref (s.heap.objs.size + 1)], kw⟩) _ _ _
    refine wpAny_mono (body _) (fun f s' hf => ?_) fun _ _ e => e
    obtain ⟨rfl, hq⟩ := hf
    exact ⟨_, rfl, wpAny_pure ⟨_, rfl, hq⟩⟩
variable {β : Type} {bs : List β} {enc : β → PyData} {R : Value → β → Prop}
theorem sorted_dataC {l : Addr} {Q : Value → Shared → Prop} (hc : Colls prog w s l vs) (e : EachIs R vs bs) (er : EachIs (fun v b => ∃ as, Reads s.heap v (enc b) as) vs bs) (hal : AllAlike (bs.map enc)) (hk : Sortable (bs.map enc)) (hL : bs.length ≤ sizeLine)
    (hu : ∀ b, b ∈ bs → A.units + 2 + (enc b).depth < cLine) (h : ∀ out, out.length = bs.length → EachIs R out (bs.mergeSort (dataLe false enc)) → Q (.ref (s.heap.objs.size + 1)) { s with heap := sortedAll s.heap vs (List.toArray out) }) :
    wpAny (model prog w) A (call (.builtin "sorted") [.ref l]) Q E s := by
  have er' : EachIs (fun v b => ∃ as, Reads (sortingHeap (copyHeap s.heap vs) (s.heap.objs.size + 1) vs) v (enc b) as) vs bs := er.mono fun _ _ ⟨as, r⟩ => ⟨as, PyProof.Rows.Reads.keeps (fun _ _ => sorting_copy_old) r⟩
  have S := SortsAt.data (prog := prog) (w := w) (A := A.in1.in1) (s := { s with heap := sortingHeap (copyHeap s.heap vs) (s.heap.objs.size + 1) vs }) (each_map (R := fun v d => ∃ as, Reads (sortingHeap (copyHeap s.heap vs) (s.heap.objs.size + 1) vs) v d as) enc er') hal hk (bound_map hu)
  have hL' : vs.length ≤ sizeLine := by rw [e.length]; exact hL
  exact sorted_of_sortC hc hL' (args_sorted1 _) (fun _ => args_list_sort _) fun _ => list_sort_vals (s := { s with heap := copyHeap s.heap vs }) (copyHeap_at s.heap vs) S hL' ⟨rfl, h _ (by rw [sortVals_length false rfl]; exact e.length) (sortVals_data false e er' hal)⟩
theorem sorted_keyC {l : Addr} {f : Value} {kw : List (Str × Value)} {b : Bool} {Q : Value → Shared → Prop} (k : β → PyData) (hc : Colls prog w s l vs) (e : EachIs R vs bs) (hal : AllAlike (bs.map k)) (hk : Sortable (bs.map k)) (hL : bs.length ≤ sizeLine)
    (hu : ∀ x, x ∈ bs → A.units + 2 + (k x).depth < cLine) (ha1 : argsOk "sorted" ⟨[.ref l], kw⟩) (ha2 : ∀ x, argsOk "list.sort" ⟨[.ref x], kw⟩) (ht : ∀ x, Builtin.«list.sort» ⟨[.ref x], kw⟩ = ksk_tree x f b)
    (turn : ∀ (v : Value) (x : β), R v x → x ∈ bs → ∀ (h : Heap) (tk : Nat), (∀ b o, s.heap.get? b = some o → h.get? b = some o) →
      wpAny (model prog w) A.in1.in1 (call f [v]) (KeyPure (k x) { s with heap := h, toks := tk }) (fun _ _ => False) { s with heap := h, toks := tk })
    (h : ∀ out c h' tk, (∀ b o, s.heap.get? b = some o → h'.get? b = some o) → h'.get? (s.heap.objs.size + 1) = some (seqObj "list" (List.toArray out) c) → out.length = bs.length → EachIs R out (bs.mergeSort (dataLe b k)) →
      Q (.ref (s.heap.objs.size + 1)) { s with heap := h', toks := tk }) :
    wpAny (model prog w) A (call (.builtin "sorted") [.ref l] kw) Q E s := by
  have up : ∀ {g : Heap}, KeepsBut (s.heap.objs.size + 1) (copyHeap s.heap vs) g → ∀ b o, s.heap.get? b = some o → g.get? b = some o := fun {g} kp b o q =>
    kp b o (Nat.ne_of_lt (Nat.lt_succ_of_lt (Heap.lt_size q))) (copyHeap_old q)
  refine sorted_of_sortC hc (by rw [e.length]; exact hL) ha1 ha2 fun E' => ?_
  rw [ht]
  refine keyH_tree (kz := bs.map k) (s := { s with heap := copyHeap s.heap vs }) (copyHeap_at s.heap vs) (by rw [List.length_map]; exact e.length.symm) (by rw [e.length]; exact hL) hal hk (bound_map (A := A.in1.in1) hu)
    (keyH_turns (s := { s with heap := copyHeap s.heap vs }) e fun v x hR hx h tk kp => turn v x hR hx h tk (up kp)) fun h' tk out c kp hD ko => ⟨rfl, ?_⟩
  exact h out c h' tk (up kp) hD ((ko.length (by rw [List.length_map]; exact e.length.symm)).trans e.length) (keyedOut_each k ko e)
theorem Colls.list {l : Addr} (hl : s.heap.IsList l vs.toArray) (hz : vs.length ≤ sizeLine) : Colls prog w s l vs := fun _ _ _ h => collect_list hl h hz
theorem Colls.tuple {l : Addr} (hl : s.heap.IsTuple l vs.toArray) (hz : vs.length ≤ sizeLine) : Colls prog w s l vs := fun _ _ _ h => collect_tup hl hz h
end
end DL

set_option Elab.async false
set_option linter.all false
set_option maxRecDepth 100000
set_option maxHeartbeats 1000000
/-! DL29: sorted of data, over D. -/
namespace DL
open PySem PySem.Spec PySem.W L2
/-- sorted(xs), xs a list or a tuple of alike data -/
def rSortD (K : PySem.W.Frag) : List V → Hp → VK → Prop := fun vs H Q => ∃ (a : Addr) (bs : List (V × D)) (enc : V × D → PyData), vs = [V.ref a] ∧ (SqL K H a (bs.map (·.1)) ∨ SqT K H a (bs.map (·.1))) ∧ (∀ b ∈ bs, Dp K H b.1 (enc b)) ∧ AllAlike (bs.map enc) ∧ Sortable (bs.map enc) ∧ (∀ b ∈ bs, (enc b).depth ≤ 60) ∧ bs.length ≤ sizeLine ∧
  ∀ p, H p = none → Q (.ref p) (L2.upd H p (.lst ((bs.mergeSort (dataLe false enc)).map (·.1))))
theorem each_vals {bs : List (V × D)} : ∀ {us : List Value}, Vals (bs.map (·.1)) us → EachIs (fun u (b : V × D) => RelV b.1 u) us bs := by
  induction bs with
  | nil => intro us r; cases r; exact .nil
  | cons b bs ih =>
    intro us r
    cases r with
    | cons r1 r2 => exact .cons r1 (ih r2)
theorem vals_each : ∀ {bs : List (V × D)} {us : List Value}, EachIs (fun u (b : V × D) => RelV b.1 u) us bs → Vals (bs.map (·.1)) us
  | _, _, .nil => .nil
  | _, _, .cons r t => .cons r (vals_each t)
section
variable {X : Cx} {G : Ctx}
theorem cr_sortD (hu : X.A.units + 66 < cLine) : CallR X (.builtin "sorted") (rSortD X.K) := by
  intro pins s σ H vs us Q I r h
  obtain ⟨a, bs, enc, rfl, hs, hd, hal, hk, hdep, hz, q⟩ := h
  rw [Vals.ref1 r]
  have key : ∀ {its : List Value}, Vals (bs.map (·.1)) its → Colls X.prog X.w s a its → wpAny (model X.prog X.w) X.A (call (.builtin "sorted") [.ref a]) (EP X pins σ Q) (fun _ _ => False) s → True := fun _ _ _ => trivial
  have main : ∀ {its : List Value} {E : Value → Shared → Prop}, Vals (bs.map (·.1)) its → Colls X.prog X.w s a its → wpAny (model X.prog X.w) X.A (call (.builtin "sorted") [.ref a]) (EP X pins σ Q) E s := by
    intro its E rv hc
    have e := each_vals rv
    have er : EachIs (fun u (b : V × D) => ∃ as, Reads s.heap u (enc b) as) its bs := (each_mem e).mono fun u b ⟨hr, hb⟩ => Dp.reads I _ _ _ (hd b hb) hr
    refine sorted_dataC hc e er hal hk hz (fun b hb => by have := hdep b hb; omega) fun out hl eo => ?_
    obtain ⟨ep, he'⟩ := PyProof.Rows.sortedAll_at s.heap its (List.toArray out)
    have hlen : ((bs.mergeSort (dataLe false enc)).map (·.1)).length ≤ sizeLine := by rw [List.length_map, List.length_mergeSort]; exact hz
    have J := I.laid (a := s.heap.objs.size + 1) (t' := s.toks) (fun _ _ => PyProof.Rows.sortedAll_old) (Nat.le_succ _) (show ObjOk X.prog X.w (L2.upd H (s.heap.objs.size + 1) (.lst ((bs.mergeSort (dataLe false enc)).map (·.1)))) _ _ (.lst ((bs.mergeSort (dataLe false enc)).map (·.1))) from ⟨hlen, out, ep, vals_each eo, he'⟩)
    exact ⟨.ref _, _, J, rfl, q _ (I.hok.fresh (Nat.le_succ _))⟩
  rcases hs with hs | hs
  · obtain ⟨its, rv, hl, hz'⟩ := I.list hs
    exact main rv (Colls.list hl.isList (by rw [← rv.length]; exact hz'))
  · obtain ⟨its, rv, hl, hz'⟩ := I.tuple hs
    exact main rv (Colls.tuple hl (by rw [← rv.length]; exact hz'))
end
/-! ### over D -/
def encD (d : D) : PyData := (pyD d).getD .none
def leD : D → D → Bool := dataLe false encD
def okSort (ds : List D) : Bool := (ds.all fun d => (pyD d).isSome && decide ((encD d).depth ≤ 60)) && ((ds.all fun d => ds.all fun e => alike (encD d) (encD e)) &&
  ((ds.all fun d => match encD d with | .tuple (_ :: _) => true | _ => false) || (ds.all fun d => match encD d with | .none => false | .tuple _ => false | _ => true)))
def sortDP : D → RP
  | .lst ds => match okSort ds && decide (ds.length ≤ sizeLine) with | true => some (.lst (ds.mergeSort leD), true) | false => none
  | .tup ds => match okSort ds && decide (ds.length ≤ sizeLine) with | true => some (.lst (ds.mergeSort leD), true) | false => none
  | _ => none
section
variable {G : Ctx} {H : Hp} {S : Sset}
theorem RepL.zip_mem : ∀ {vs : List V} {ds : List D}, RepL G H S vs ds → ∀ b ∈ vs.zip ds, Rep G H S b.1 b.2
  | _, _, .nil, b, hb => by simp at hb
  | _, _, .cons r1 r2, b, hb => by
    rw [List.zip_cons_cons] at hb
    rcases List.mem_cons.mp hb with rfl | hb
    · exact r1
    · exact r2.zip_mem b hb
theorem RepL.of_pairs : ∀ {bs : List (V × D)}, (∀ b ∈ bs, Rep G H S b.1 b.2) → RepL G H S (bs.map (·.1)) (bs.map (·.2))
  | [], _ => .nil
  | b :: bs, h => .cons (h b List.mem_cons_self) (RepL.of_pairs fun x hx => h x (List.mem_cons_of_mem _ hx))
theorem zip_fst : ∀ {vs : List V} {ds : List D}, vs.length = ds.length → (vs.zip ds).map (·.1) = vs
  | [], [], _ => rfl
  | v :: vs, d :: ds, h => by
    rw [List.zip_cons_cons, List.map_cons, zip_fst (by simpa using h)]
theorem zip_snd : ∀ {vs : List V} {ds : List D}, vs.length = ds.length → (vs.zip ds).map (·.2) = ds
  | [], [], _ => rfl
  | v :: vs, d :: ds, h => by
    rw [List.zip_cons_cons, List.map_cons, zip_snd (by simpa using h)]
theorem okSort_sp {ds : List D} (h : okSort ds = true) : (∀ d ∈ ds, ∃ p, pyD d = some p ∧ p.depth ≤ 60) ∧ AllAlike (ds.map encD) ∧ Sortable (ds.map encD) := by
  unfold okSort at h
  rw [Bool.and_eq_true, Bool.and_eq_true] at h
  obtain ⟨h1, h2, h3⟩ := h
  refine ⟨fun d hd => ?_, ?_, ?_⟩
  · have q := List.all_eq_true.mp h1 d hd
    rw [Bool.and_eq_true, decide_eq_true_eq] at q
    obtain ⟨p, hp⟩ := Option.isSome_iff_exists.mp q.1
    refine ⟨p, hp, ?_⟩
    have := q.2
    unfold encD at this
    rw [hp] at this
    exact this
  · intro x hx y hy
    obtain ⟨d, hd, rfl⟩ := List.mem_map.mp hx
    obtain ⟨e, he, rfl⟩ := List.mem_map.mp hy
    exact List.all_eq_true.mp (List.all_eq_true.mp h2 d hd) e he
  · rw [Bool.or_eq_true] at h3
    rcases h3 with h3 | h3
    · refine .inl fun x hx => ?_
      obtain ⟨d, hd, rfl⟩ := List.mem_map.mp hx
      have q := List.all_eq_true.mp h3 d hd
      split at q
      · rename_i a b e
        exact ⟨a, b, e⟩
      · cases q
    · refine .inr fun x hx => ?_
      obtain ⟨d, hd, rfl⟩ := List.mem_map.mp hx
      have q := List.all_eq_true.mp h3 d hd
      split at q
      · cases q
      · cases q
      · rename_i n1 n2
        exact ⟨n1, n2⟩
theorem sort_pairs (vs : List V) (ds : List D) (hl : vs.length = ds.length) : (((vs.zip ds).mergeSort (dataLe false fun b : V × D => encD b.2)).map (·.2)) = ds.mergeSort leD := by
  have := List.map_mergeSort (r := dataLe false fun b : V × D => encD b.2) (s := leD) (f := fun b : V × D => b.2) (l := vs.zip ds) (fun a _ b _ => rfl)
  rw [this, zip_snd hl]
theorem sortDP_core {K : PySem.W.Frag} (hK : G.K = K) {a : Addr} {vs : List V} {ds : List D} {o : Bool} {d : D} {Q : VK} (hS : ∀ a, S a → ∃ u, H a = some u) (hs : SqL K H a vs ∨ SqT K H a vs) (r : RepL G H S vs ds) (e : (match okSort ds && decide (ds.length ≤ sizeLine) with | true => some (D.lst (ds.mergeSort leD), true) | false => none) = some (d, o))
    (k : ∀ v' H', New G H S v' H' d o → Q v' H') : rSortD K [.ref a] H Q := by
  cases c : okSort ds && decide (ds.length ≤ sizeLine) with
  | false => rw [c] at e; cases e
  | true =>
    rw [c] at e
    cases e
    obtain ⟨c1, c2⟩ := Bool.and_eq_true_iff.mp c
    have c2 := of_decide_eq_true c2
    obtain ⟨g1, g2, g3⟩ := okSort_sp c1
    have hl := r.length
    have hm : (vs.zip ds).map (fun b : V × D => encD b.2) = ds.map encD := by
      rw [show (fun b : V × D => encD b.2) = encD ∘ (·.2) from rfl, ← List.map_map, zip_snd hl]
    have hrep := r.zip_mem
    have hds : ∀ b ∈ vs.zip ds, b.2 ∈ ds := fun b hb => (List.of_mem_zip hb).2
    refine ⟨a, vs.zip ds, fun b => encD b.2, rfl, by rw [zip_fst hl]; exact hs, fun b hb => ?_, by rw [hm]; exact g2, by rw [hm]; exact g3, fun b hb => ?_, by rw [List.length_zip, hl, Nat.min_self]; exact c2, fun p hp => k _ _ ?_⟩
    · obtain ⟨p, hp, _⟩ := g1 b.2 (hds b hb)
      have := (pyD_ok hK (hrep b hb) hp).1
      show Dp K H b.1 ((pyD b.2).getD .none)
      rw [hp]
      exact this
    · obtain ⟨p, hp, hd⟩ := g1 b.2 (hds b hb)
      show ((pyD b.2).getD .none).depth ≤ 60
      rw [hp]
      exact hd
    · have hR : RepL G H S (((vs.zip ds).mergeSort (dataLe false fun b : V × D => encD b.2)).map (·.1)) (ds.mergeSort leD) := by
        have := RepL.of_pairs (G := G) (H := H) (S := S) (bs := (vs.zip ds).mergeSort (dataLe false fun b : V × D => encD b.2)) fun b hb => hrep b (List.mem_mergeSort.mp hb)
        rw [sort_pairs vs ds hl] at this
        exact this
      exact New.lst hS hp hR (by rw [hR.length, List.length_mergeSort]; exact c2)
theorem sortDP_ok {K : PySem.W.Frag} (hK : G.K = K) : P1 G (fun v H Q => rSortD K [v] H Q) sortDP := fun H S v x d o Q hS rx e k => by
  cases x with
  | lst ds =>
    obtain ⟨a, vs, rfl, h1, h2, h3⟩ := rx.lst
    exact sortDP_core hK hS (.inl (SqL.of h1)) h3 e k
  | tup ds =>
    obtain ⟨a, vs, rfl, h1, h2, h3⟩ := rx.tup hK
    exact sortDP_core hK hS (.inr h1) h3 e k
  | _ => simp [sortDP] at e
end
end DL

set_option Elab.async false
set_option linter.all false
set_option maxRecDepth 100000
set_option maxHeartbeats 1000000
/-! DL30: sorted(xs, key=lambda y: y.f), f a text of the instances. -/
namespace DL
open PySem PySem.Spec PyProof.Rows PySem.W L2 LamX
section
variable {X : Cx} {pins : List (Addr × Obj)} {σ : L2.St} {H : Hp} {s : Shared}
theorem key_attr {A : Around} {f c' a C dx : Addr} {q y fld x : Str} {params : Arguments} {scope : Scope} {clo : List (Str × Addr)} {dV pm ctv : Value} {p1 p2 : Pos} {fs : List (Str × V)} (J : Inv X pins σ H s) (hdp : A.depth < recursionLimit)
    (ho : s.heap.get? f = some (klx_obj q params (.Attribute (.Name y p1) fld p2) scope clo dV pm c' ctv)) (hc : H c' = some (CodeO c' q)) (hk : scope.kind = .function) (hco : scope.isCoroutine = false) (hge : scope.isGenerator = false) (hS : scope.names = [(y, .local)])
    (hb : ∀ u, bindArgs (klx_fn q params (.Attribute (.Name y p1) fld p2) scope clo dV pm (.ref c') ctv) ⟨[u], []⟩ = pure [(y, u)])
    (ha : H a = some (.ins C dx fs)) (cl : Cls X.K C) (na : NoAttr X.K C fld) (hl : fs.lookup fld = some (.str x)) (hd : (y == ("__debug__" : Str)) = false) :
    wpAny (model X.prog X.w) A (call (.ref f) [.ref a]) (KeyPure (.str x) s) (fun _ _ => False) s := by
  obtain ⟨⟨oc, vs, t, hoc, hdc, hvc⟩, _, _⟩ := J.hok c' _ hc
  have lk : scope.names.lookup y = some .local := by
    rw [hS, List.lookup_cons]
    simp
  refine wpAny_call (PySem.W.kla_callFunE hdp ho rfl hco hge rfl ⟨c', oc, vs, t, rfl, hoc, hdc, hvc⟩ ?_)
  rw [hb]
  refine wpAny_pure ?_
  refine wpAny_newFunctionEnv (fun z hz => ?_) (fun z hz => ?_) (fun h₁ hns hsb => ⟨J.nolimit.fresh _ hsb, ?_⟩) hk
  · rw [hS, List.mem_singleton] at hz
    subst hz
    intro e; cases e
  · rw [List.mem_singleton] at hz
    subst hz
    exact lk
  have kp : ∀ b o, s.heap.get? b = some o → h₁.get? b = some o := fun b o e => hsb.extBut b o (Nat.ne_of_lt (Heap.lt_size e)) (Heap.get?_push_of_some _ e)
  have J1 : Inv X pins σ H { s with heap := h₁, toks := s.toks + 1 } := J.kept kp
  obtain ⟨mA, O, r, _, _, _⟩ := ins_get J1.hok ha
  obtain ⟨u, hu, ru⟩ := RelO.some_of (v := V.str x) (o := mA fld) (by rw [← hl]; exact r fld)
  obtain ⟨tk, rfl⟩ := ru
  refine PySem.W.kla_codeExpr ?_
  refine L2.attr_of (by rfl) (wpAny_Name (wpAny_loadName_local (v := .ref a) hk lk hns ?_ ?_) hd)
  · show (List.reverse [(y, Value.ref a)]).lookup y = _
    simp
  · refine get_map J1.kIn O (cl.get fld) cl.hd na hu rfl ?_
    exact ⟨h₁, _, rfl, kp, Reads.str _ _⟩
end
/-! ### over D -/
def fldS (ix : Nat → Option Nat) : D → Option Str
  | .obj c ds => match ix c with
    | some j => (match ds[j]? with
      | some (.str x) => some x
      | _ => none)
    | none => none
  | _ => none
def keyA (ix : Nat → Option Nat) (d : D) : PyData := match fldS ix d with | some x => .str x | none => .none
def leA (ix : Nat → Option Nat) : D → D → Bool := dataLe false (keyA ix)
def sortAP (ix : Nat → Option Nat) : D → RP
  | .lst ds => match (ds.all fun d => (fldS ix d).isSome) && decide (ds.length ≤ sizeLine) with | true => some (.lst (ds.mergeSort (leA ix)), true) | false => none
  | .tup ds => match (ds.all fun d => (fldS ix d).isSome) && decide (ds.length ≤ sizeLine) with | true => some (.lst (ds.mergeSort (leA ix)), true) | false => none
  | _ => none
def mSortA (ix : Nat → Option Nat) (m : ME) : ME := bindE m fun d => liftP (sortAP ix d)
section
variable {X : Cx} {G : Ctx} {W : WX}
theorem fldS_at {ix : Nat → Option Nat} {H : Hp} {S : Sset} {v : V} {d : D} {f x : Str} (hf : FldOk X.K G f ix) (r : Rep G H S v d) (e : fldS ix d = some x) : ∃ a C dx fs, v = .ref a ∧ H a = some (.ins C dx fs) ∧ Cls X.K C ∧ NoAttr X.K C f ∧ fs.lookup f = some (.str x) := by
  cases d with
  | obj c ds =>
    simp only [fldS] at e
    cases q : ix c with
    | none => rw [q] at e; cases e
    | some j =>
      rw [q] at e
      cases q2 : ds[j]? with
      | none => simp [q2] at e
      | some d' =>
        simp only [q2] at e
        obtain ⟨a, dx, vs, rfl, h1, h2, h3⟩ := RepB.obj (.inl r)
        obtain ⟨f1, f2, f3, f4⟩ := hf c j q
        obtain ⟨v, q3, rv⟩ := h3.get q2
        cases d' with
        | str z =>
          cases e
          cases rv
          exact ⟨a, _, dx, _, rfl, h1, f1, f2, (zip_look f4 f3).trans q3⟩
        | _ => cases e
  | _ => cases e
theorem sortAP_sp {ix : Nat → Option Nat} {x d : D} {o : Bool} (e : sortAP ix x = some (d, o)) : ∃ ds, (x = .lst ds ∨ x = .tup ds) ∧ (∀ y ∈ ds, ∃ z, fldS ix y = some z) ∧ ds.length ≤ sizeLine ∧ d = .lst (ds.mergeSort (leA ix)) ∧ o = true := by
  cases x with
  | lst ds =>
    simp only [sortAP] at e
    split at e
    · rename_i hc
      cases e
      obtain ⟨c1, c2⟩ := Bool.and_eq_true_iff.mp hc
      exact ⟨ds, .inl rfl, fun y hy => Option.isSome_iff_exists.mp (List.all_eq_true.mp c1 y hy), of_decide_eq_true c2, rfl, rfl⟩
    · cases e
  | tup ds =>
    simp only [sortAP] at e
    split at e
    · rename_i hc
      cases e
      obtain ⟨c1, c2⟩ := Bool.and_eq_true_iff.mp hc
      exact ⟨ds, .inr rfl, fun y hy => Option.isSome_iff_exists.mp (List.all_eq_true.mp c1 y hy), of_decide_eq_true c2, rfl, rfl⟩
    · cases e
  | _ => cases e
theorem de_sortA {ix : Nat → Option Nat} {m : ME} {e : Expr} {y f : Str} {params : Arguments} {scope : Scope} {k : Nat} {c P : Addr} {p lpos kpos pos p1 p2 : Pos} (hg : Gl X "sorted") (hm : X.mg "sorted" = none) (hK : G.K = X.K) (hF : FldOk X.K G f ix) (he : DE X G W e m)
    (TB : TabB X.base X.mg c P) (hcode : X.env.code = .ref c) (hmT : (P, X.env.qual ++ "<lambda>") ∈ G.T) (hu : ∀ p ∈ G.T, p.1 = P → p.2 = X.env.qual ++ "<lambda>") (hr : Room (k + 1) X.A)
    (hk : scope.kind = .function) (hco : scope.isCoroutine = false) (hge : scope.isGenerator = false) (hS : scope.names = [(y, .local)]) (hdef : DefsOf params X.env none)
    (hbnd : ∀ (q : Str) (clo : List (Str × Addr)) (pm cdv ctv u : Value), bindArgs (klx_fn q params (.Attribute (.Name y p1) f p2) scope clo .none pm cdv ctv) ⟨[u], []⟩ = pure [(y, u)])
    (hd : (y == ("__debug__" : Str)) = false := by decide)
    (h1 : backTo pos (starEach (e :: []) X.env) = (false, eval e X.env) :: backTo pos (starEach [] X.env) := by rfl) (hs1 : starEach (e :: []) X.env = (false, eval e X.env) :: starEach [] X.env := by rfl) (hpl : (backTo pos (starEach (e :: []) X.env)).any (·.1) = false := by rfl)
    (hall : (backToKw pos (keywordEach [⟨some "key", .Lambda params (.Attribute (.Name y p1) f p2) scope lpos, kpos⟩] X.env)).all (·.1.isSome) = true := by rfl) (hnone : (backToKw pos (keywordEach [⟨some "key", .Lambda params (.Attribute (.Name y p1) f p2) scope lpos, kpos⟩] X.env)).any (·.1.isNone) = false := by rfl)
    (hks : (backToKw pos (keywordEach [⟨some "key", .Lambda params (.Attribute (.Name y p1) f p2) scope lpos, kpos⟩] X.env)).filterMap (·.1) = [Str.ofString "key"] := by rfl) :
    DE X G W (.Call (.Name "sorted" p) [e] [⟨some "key", .Lambda params (.Attribute (.Name y p1) f p2) scope lpos, kpos⟩] pos) (mSortA ix m) := by
  refine ⟨fun pins s σ H Q I h => ?_⟩
  obtain ⟨g, env, S, P0, I0, h⟩ := h
  refine wpAny_Call_Name_kw (ld_blt I hg hm (by rfl) ?_)
  refine PyProof.Rows.callWith_kw (thn ((pa_cons he pa_nil hs1).run pos pins s σ H (fun vs H1 => ∃ v, vs = [v] ∧ ∃ d env1 S1, SI G g σ H1 env1 S1 P0 ∧ Rep G H1 S1 v d ∧ PostE G W g σ H1 S1 P0 Q (liftP (sortAP ix d) env1)) I ?_) fun us s1 ⟨vs, H1, I1, r1, q1⟩ => ?_) h1 hpl hall hnone
  · exact bindE_ok I0 h fun d env1 v H1 S1 gr I1 r h => ⟨v, rfl, d, env1, S1, I1, r, h⟩
  · rw [hks]
    obtain ⟨v, rfl, d, env1, S1, J1, rd, h⟩ := q1
    refine PyProof.Rows.kws_cons (lam_make3 (io := none) I1 TB hcode hmT hu J1.tab hdef (fun z hz hz2 => ?_) fun fa c' dV pm ctv H2 s2 I2 eN T2 hD hf hfn hfr hcc => PyProof.Rows.kws_nil ?_)
    · rw [hS, List.mem_singleton] at hz
      subst hz
      cases hz2
    · have hdv : dV = .none := hD
      subst hdv
      obtain ⟨J2, gr⟩ := J1.tabN eN T2
      have h := h.mono gr
      have rd2 := rd.mono gr
      obtain ⟨d', o, e', k⟩ := liftP_ok J2 h
      obtain ⟨ds, hx, hfl, hz, rfl, rfl⟩ := sortAP_sp e'
      have main : ∀ {a : Addr} {vs : List V} {its : List Value}, Vals vs its → RepL G H2 S1 vs ds → Colls X.prog X.w s2 a its → wpAny (model X.prog X.w) X.A (call (.builtin "sorted") [.ref a] [(Str.ofString "key", .ref fa)]) (EP X pins σ Q) X.xe s2 := by
        intro a vs its rv rl hc
        have hl := rl.length
        have hrep := rl.zip_mem
        have hstr : ∀ b ∈ vs.zip ds, ∃ z, keyA ix b.2 = .str z ∧ fldS ix b.2 = some z := fun b hb => by
          obtain ⟨z, hz⟩ := hfl b.2 (List.of_mem_zip hb).2
          exact ⟨z, by unfold keyA; rw [hz], hz⟩
        refine sorted_keyC (b := false) (bs := vs.zip ds) (R := fun u (b : V × D) => RelV b.1 u) (fun b : V × D => keyA ix b.2) hc (each_vals (by rw [zip_fst hl]; exact rv)) (fun x hx y hy => ?_) (.inr fun x hx => ?_) (by rw [List.length_zip, hl, Nat.min_self]; exact hz) (fun b hb => ?_) (ksk_s1 _ _) (fun _ => ksk_l1 _ _) (fun _ => ksk_t1 _ _) (fun u b hR hb h tk kp => ?_) fun out c h' tk kp hD hlo eo => ?_
        · obtain ⟨b, hb, rfl⟩ := List.mem_map.mp hx
          obtain ⟨b', hb', rfl⟩ := List.mem_map.mp hy
          obtain ⟨z, e1, _⟩ := hstr b hb
          obtain ⟨z', e2, _⟩ := hstr b' hb'
          rw [e1, e2]
          simp [alike]
        · obtain ⟨b, hb, rfl⟩ := List.mem_map.mp hx
          obtain ⟨z, e1, _⟩ := hstr b hb
          rw [e1]
          exact ⟨fun z => (nomatch z), fun _ z => (nomatch z)⟩
        · obtain ⟨z, e1, _⟩ := hstr b hb
          rw [e1]
          have := hr.un
          simp only [PyData.depth]
          omega
        · obtain ⟨z, e1, e2⟩ := hstr b hb
          obtain ⟨a', C, dx, fs, eb, ha, cl, na, hlk⟩ := fldS_at hF (hrep b hb) e2
          rw [eb] at hR
          cases hR
          rw [e1]
          exact key_attr (I2.kept kp) (by have := hr.dp; show X.A.depth < _; omega) (kp _ _ hf) hcc hk hco hge hS (fun u => hbnd _ _ _ _ _ u) ha cl na hlk hd
        · have hR : RepL G H2 S1 (((vs.zip ds).mergeSort (dataLe false fun b : V × D => keyA ix b.2)).map (·.1)) (ds.mergeSort (leA ix)) := by
            have := RepL.of_pairs (G := G) (H := H2) (S := S1) (bs := (vs.zip ds).mergeSort (dataLe false fun b : V × D => keyA ix b.2)) fun b hb => hrep b (List.mem_mergeSort.mp hb)
            have e3 := List.map_mergeSort (r := dataLe false fun b : V × D => keyA ix b.2) (s := leA ix) (f := fun b : V × D => b.2) (l := vs.zip ds) (fun a _ b _ => rfl)
            rw [zip_snd hl] at e3
            rw [e3] at this
            exact this
          have hlen : (((vs.zip ds).mergeSort (dataLe false fun b : V × D => keyA ix b.2)).map (·.1)).length ≤ sizeLine := by rw [hR.length, List.length_mergeSort]; exact hz
          have J3 := I2.laid (a := s2.heap.objs.size + 1) (t' := tk) kp (Nat.le_succ _) (show ObjOk X.prog X.w (L2.upd H2 (s2.heap.objs.size + 1) (.lst (((vs.zip ds).mergeSort (dataLe false fun b : V × D => keyA ix b.2)).map (·.1)))) _ _ (.lst (((vs.zip ds).mergeSort (dataLe false fun b : V × D => keyA ix b.2)).map (·.1))) from ⟨hlen, out, c, vals_each eo, hD⟩)
          exact ⟨.ref _, _, J3, rfl, k _ _ (New.lst J2.shH (I2.hok.fresh (Nat.le_succ _)) hR hlen)⟩
      rcases hx with rfl | rfl
      · obtain ⟨a, vs, rfl, q1, q2, q3⟩ := RepB.lst (.inl rd2)
        rw [Vals.ref1 r1]
        obtain ⟨its, rv, hl, hz'⟩ := I2.list (SqL.of q1)
        exact main rv q3 (Colls.list hl.isList (by rw [← rv.length]; exact hz'))
      · obtain ⟨a, vs, rfl, q1, q2, q3⟩ := RepB.tup hK (.inl rd2)
        rw [Vals.ref1 r1]
        obtain ⟨its, rv, hl, hz'⟩ := I2.tuple q1
        exact main rv q3 (Colls.tuple hl (by rw [← rv.length]; exact hz'))
end
end DL

set_option Elab.async false
set_option linter.all false
set_option maxRecDepth 100000
set_option maxHeartbeats 2000000
/-! DL31: the end of a law row with several tables of code objects. -/
namespace DL
open PySem PySem.Spec PyProof.Rows L2 LamX
/-- a def that makes lambdas -/
structure TabI where
  x : Str
  st : Stmt
  f : Addr
  c : Addr
  P : Addr
open Classical in
/-- what is tracked at the law's entry: its table of code objects; the script, unless it is of the written part -/
noncomputable def entryT (K : PySem.W.Frag) (Ps : List Addr) (a : Addr) (o : Obj) (ns : List Int) : Hp := fun b => if b ∈ Ps then some (.tbl #[]) else if b = a ∧ K.lookup a = none then some (.frz o (.lst (ns.map V.int))) else none
section
variable {P : Program} {w : World} {K : PySem.W.Frag} {mg mb : Str → Option Value} {fa a : Addr} {Ps : List Addr} {s₁ : Shared} {vs : List Value} {ns : List Int}
theorem entryT_at {o : Obj} {b : Addr} {u : HO} (h : entryT K Ps a o ns b = some u) : (b ∈ Ps ∧ u = .tbl #[]) ∨ (b ∉ Ps ∧ b = a ∧ K.lookup a = none ∧ u = .frz o (.lst (ns.map V.int))) := by
  unfold entryT at h
  by_cases h1 : b ∈ Ps
  · rw [if_pos h1] at h
    exact .inl ⟨h1, (Option.some.inj h).symm⟩
  · rw [if_neg h1] at h
    by_cases h2 : b = a ∧ K.lookup a = none
    · rw [if_pos h2] at h
      exact .inr ⟨h1, h2.1, h2.2, (Option.some.inj h).symm⟩
    · rw [if_neg h2] at h; cases h
theorem law_callT (KX : K.In s₁.heap) (hns : s₁.heap.Ns mainGlobals mg) (hb : s₁.heap.Ns builtinsNs mb) (hbb : ∀ x : Str, x ≠ "__name__" → mb x = bootBuiltins x) (hlim : s₁.heap.NoLimit) (hg : s₁.gens = #[])
    (hT : ∀ P ∈ Ps, s₁.heap.get? P = some { cls := .none, data := .fields #[] }) (nT : ∀ P ∈ Ps, K.lookup P = none) (C : ∀ P ∈ Ps, ∃ c, PySem.W.CodeHd s₁.heap c P)
    (hbm : ∃ (bm : Addr) (ob : Obj), mg "__builtins__" = some (.ref bm) ∧ bm ≠ builtinsNs ∧ s₁.heap.get? bm = some ob ∧ ob.cls = .type "module" ∧ ob.dict = some builtinsNs ∧ ob.data = .plain)
    (ha : s₁.heap.get? a = some { cls := .type "list", data := .seq vs.toArray }) (hi : IntsAre vs ns) (hl : ns.length ≤ sizeLine)
    (G : Ctx) (hGK : G.K = K) (hGT : G.T.map (·.1) = Ps)
    (F : ∀ (base : Heap) (H : Hp) (S : Sset), Env0 P w K mg base callerA [] s₁ H → K.In base → base.Ns mainGlobals mg → (∀ c P, P ∈ Ps → PySem.W.CodeHd s₁.heap c P → TabB base mg c P) → ShOk G H S → Rep G H S (.ref a) (.scr ns) →
      codeAny (model P w) callerA (.call (.ref fa) ⟨[.ref a], []⟩) (CR (L2.CX P w) [] P w H s₁ (fun v _ => v = .bl true) fun _ _ _ => False) s₁) :
    codeAny (model P w) callerA (.call (.ref fa) ⟨[.ref a], []⟩) (fun r s' => r = .ok (.ret (.bool true)) ∧ OldK s₁.heap s'.heap ∧ s'.os = s₁.os ∧ AllBare s'.gens) s₁ := by
  have rv := vals_ints hi
  have lenV := hi.length
  have aPt : a ∉ Ps := fun z => by rw [hT a z] at ha; cases ha
  let o0 : Obj := { cls := .type "list", data := .seq vs.toArray }
  let H := entryT K Ps a o0 ns
  have atP : ∀ P ∈ Ps, H P = some (.tbl #[]) := fun P hP => if_pos hP
  have keepB : ∀ {b : Addr} {o : Obj}, s₁.heap.get? b = some o → (∀ xs n, o.data ≠ .seq xs n) → o.data ≠ .fields #[] → H b = none := fun {b o} e h1 h2 => by
    cases q : H b with
    | none => rfl
    | some u =>
      rcases entryT_at q with ⟨e', _⟩ | ⟨_, e', _, _⟩
      · rw [hT _ e'] at e; cases e; exact absurd rfl h2
      · rw [e', ha] at e; cases e; exact absurd rfl (h1 _ _)
  have bs : ∀ {b : Addr} {o : Obj}, s₁.heap.get? b = some o → H b = none → (hidT s₁.heap H).get? b = some o := fun e n => hidT_get e n
  have hok : HOk P w H s₁.heap := fun b u e => by
    rcases entryT_at e with ⟨hP, rfl⟩ | ⟨_, rfl, _, rfl⟩
    · exact hT _ hP
    · exact ⟨ha, by rw [List.length_map]; exact hl, vs, _, rv, ha⟩
  have dictB : ∀ {b : Addr} {m : Str → Option Value}, s₁.heap.Ns b m → (hidT s₁.heap H).Ns b m := fun {b m} ⟨o, es, ep, e, d, r⟩ => ⟨o, es, ep, bs e (keepB e (fun xs n z => by rw [d] at z; cases z) fun z => by rw [d] at z; cases z), d, r⟩
  have hKb : K.In (hidT s₁.heap H) := fun b o e => bs (KX b o e) (by
    cases q : H b with
    | none => rfl
    | some u =>
      rcases entryT_at q with ⟨hP, _⟩ | ⟨_, rfl, nk, _⟩
      · rw [nT _ hP] at e; cases e
      · rw [nk] at e; cases e)
  have hM : L2.Mod K mg (hidT s₁.heap H) := ⟨hKb, dictB hns, ⟨mb, dictB hb, hbb⟩, let ⟨mc, h1, h2⟩ := hlim; ⟨mc, dictB h1, h2⟩⟩
  have TB : ∀ c P, P ∈ Ps → PySem.W.CodeHd s₁.heap c P → TabB (hidT s₁.heap H) mg c P := by
    intro c P hP C
    refine ⟨?_, ?_, fun z => ?_⟩
    · obtain ⟨o, us, file, tf, flags, tg, inF, text, tt, e1, r1, r2, r3, r4⟩ := C
      exact ⟨o, us, file, tf, flags, tg, inF, text, tt, bs e1 (keepB e1 (fun xs n z => by rw [r2] at z; cases z) fun z => by rw [r2] at z; cases z; simp at r3), r1, r2, r3, r4⟩
    · obtain ⟨bm, ob, b1, b2, b3, b4, b5, b6⟩ := hbm
      refine ⟨bm, ob, b1, b2, fun q => ?_, fun q => ?_, bs b3 (keepB b3 (fun xs n z => by rw [b6] at z; cases z) fun z => by rw [b6] at z; cases z), b4, b5, b6⟩
      · obtain ⟨o, es, ep, e, hd, _⟩ := hns
        rw [q, e] at b3; cases b3
        rw [hd] at b6; cases b6
      · rw [q, hT P hP] at b3; cases b3; cases b6
    · obtain ⟨o, es, ep, e, hd, _⟩ := hns
      rw [z, hT P hP] at e; cases e; cases hd
  have e0 : Env0 P w K mg (hidT s₁.heap H) callerA [] s₁ H := ⟨rfl, hM, fun b o e => of_hidT e, Nat.le_of_eq (hidT_size _ _), trivial, fun b hb => absurd hb List.not_mem_nil, hok, .of_eq hg⟩
  let S : Sset := fun b => b = a ∧ K.lookup a = none
  have Hs : ∀ b, S b → H b = some (.frz o0 (.lst (ns.map V.int))) := fun b ⟨e, n⟩ => by
    subst e
    show (if b ∈ Ps then _ else _) = _
    rw [if_neg aPt, if_pos ⟨rfl, n⟩]
  have sho : ShOk G H S := by
    refine ⟨fun b hb => ⟨_, Hs b hb⟩, fun p hp => ?_, fun b hb ps z => by rw [Hs b hb] at z; cases z⟩
    have : p.1 ∈ G.T.map (·.1) := List.mem_map_of_mem hp
    rw [hGT] at this
    exact TabS.nil (atP _ this)
  have rep : Rep G H S (.ref a) (.scr ns) := by
    cases hk : K.lookup a with
    | none => exact .scr ⟨rfl, hk⟩ (Hs a ⟨rfl, hk⟩) hl
    | some o =>
      have e := KX a o hk
      rw [ha] at e; cases e
      exact .kscr (hGK ▸ ⟨_, vs.toArray, _, hk, rfl, rfl, rfl, by rw [List.size_toArray, lenV]; exact hl, by simpa using rv⟩) hl
  refine codeAny_mono (F _ H S e0 hKb (dictB hns) TB sho rep) fun r s' h => ?_
  cases r with
  | error e =>
    obtain ⟨_, _, _, _, _, _, _, _, _, _, _, _, z⟩ := h
    exact z.elim
  | ok fl =>
    cases fl with
    | next => exact False.elim h
    | brk => exact False.elim h
    | cont => exact False.elim h
    | ret u =>
      obtain ⟨v, H', os, bare, un, hok', r', q⟩ := h
      have q : v = .bl true := q
      subst q
      obtain rfl : u = Value.bool true := r'
      have hm : ∀ P ∈ Ps, ∃ more : Array Value, s'.heap.get? P = some { cls := .none, data := .fields (#[] ++ more) } := fun P hP => by
        obtain ⟨more, hm⟩ := un.tbls P #[] (atP P hP)
        exact ⟨more, hok' P _ hm⟩
      have key : ∀ b o, b ∉ Ps → s₁.heap.get? b = some o → s'.heap.get? b = some o := fun b o nb e => by
        cases q : H b with
        | none => exact un.keep b o e q (fun z => absurd z List.not_mem_nil) (fun z => absurd z List.not_mem_nil)
        | some u =>
          rcases entryT_at q with ⟨e', _⟩ | ⟨_, _, _, rfl⟩
          · exact absurd e' nb
          · obtain ⟨e1, _⟩ := hok b _ q
            obtain ⟨e2, _⟩ := hok' b _ (un.frzs b _ _ q)
            rw [e] at e1; cases e1
            exact e2
      refine ⟨rfl, ⟨fun b o e => ?_, fun b o e => ?_⟩, os, bare⟩
      · by_cases nb : b ∈ Ps
        · have hb0 := hT b nb
          rw [hb0] at e; cases e
          obtain ⟨more, hm⟩ := hm b nb
          obtain ⟨c, C⟩ := C b nb
          exact .inr (.inl ⟨(C.tab hb0).isCodeTable, rfl, #[], more, rfl, hm⟩)
        · exact .inl (key b o nb e)
      · by_cases nb : b ∈ Ps
        · obtain ⟨more, hm⟩ := hm b nb
          exact ⟨_, hm⟩
        · exact ⟨o, key b o nb e⟩
end
theorem walk_lawT {l : PySem.W.OpenLaw} {n k : Nat} {q : Program} {loose : List Str} {XP : (Str → Option Value) → Heap → Prop} {YP : World → Heap → Prop} {d : DefRec} {K : Params → PySem.W.Frag} {x : Str} {st : Stmt} {N : List Str} {mb : MS}
    (hn : l.most = some n) (hn2 : n ≤ sizeLine) (hdf : d.params.defaults = []) (hr : Room (k + 1) callerA) (hrec : ((recsOf q).any fun e => e.name == d.name) = true) (hY : ∀ (w : World) (h : Heap), YP w h → (K w.params).In h)
    (hx : d.name = x) (Sc : FnScope N [p] (defScope st))
    (hbd : ∀ (kV doc pm : Value) (an : Option Addr) (cdv ct : Value) (u : Value), bindArgs (PySem.W.fnOf x x (defArgs st) (defBody st) (defScope st) .none kV doc pm an cdv ct) ⟨[u], []⟩ = pure [(p, u)])
    (M : ∀ ns : List Int, ns.length ≤ n → ∃ f, mkFn N.length false mb [.scr ns] = .ok (.bl true) false f)
    (F : ∀ (w : World) (mg : Str → Option Value) (fa : Addr) (h : Heap), YP w h → (K w.params).In h → h.Ns mainGlobals mg → mg x = some (.ref fa) →
      ∃ (c Pt : Addr) (G : Ctx) (L : List TabI), LawD (K w.params) x st fa c Pt ∧ (∀ i ∈ L, LawD (K w.params) i.x i.st i.f i.c i.P ∧ mg i.x = some (.ref i.f) ∧ ((recsOf q).any fun e => e.name == i.x) = true) ∧ G.K = K w.params ∧ G.T.map (·.1) = Pt :: L.map (·.P) ∧ ∀ (base : Heap) (s : Shared) (H : Hp) (E : XK), (K w.params).In base → base.Ns mainGlobals mg → TabB base mg c Pt → (∀ i ∈ L, TabB base mg i.c i.P) →
        Room k (callerA.deeper (envOfC x (defScope st) s.heap.objs.size fa (.ref c))) → (callerA.deeper (envOfC x (defScope st) s.heap.objs.size fa (.ref c))).guards = some [] →
        Takes (cxOf (L2.CX l.prog w) l.prog w (K w.params) mg base N x (defScope st) fa (.ref c) callerA [] s H E) (WD E) →
        DSs (cxOf (L2.CX l.prog w) l.prog w (K w.params) mg base N x (defScope st) fa (.ref c) callerA [] s H E) G (WD E) (defBody st) mb) :
    PySem.W.WalkO q loose XP YP l.row.toRowW d [] (fun f vs => PySem.call f vs) := by
  refine Att.attach_callB hn hdf fun w s₀ s₁ mg mb' fa o pm cd doc a vs ns G Y ho hd hcd hmg hobj hints hlen hbits hg => ?_
  have KX := hY w _ Y
  obtain ⟨c, Pt, GG, L, LD, hL, hGK, hGT, hF⟩ := F w mg fa _ Y KX G.T.g (hx ▸ hmg)
  have C := LD.hd KX
  have tabAt : ∀ {x2 : Str} {st2 : Stmt} {f2 c2 P2 : Addr}, LawD (K w.params) x2 st2 f2 c2 P2 → mg x2 = some (.ref f2) → ((recsOf q).any fun e => e.name == x2) = true → s₁.heap.get? P2 = some { cls := .none, data := .fields #[] } := fun {x2 st2 f2 c2 P2} LD hmg hrec => by
    obtain ⟨oc, od, kV, doc, pm, an, ct, osl, dd, vs1, sl, file, tf, flags, tg, inF, text, tt, k1, c1, k4, k5, _⟩ := LD.ex
    obtain ⟨dL, hm, hn1⟩ := List.any_eq_true.mp hrec
    have hn2 : dL.name = x2 := beq_iff_eq.mp hn1
    obtain ⟨a', o', fd', c', P', h1, h2, h3, h4, h5, h6⟩ := G.T.tab dL hm
    rw [hn2, hmg] at h1
    cases h1
    have g1 := KX _ _ k1
    rw [g1] at h2
    cases h2
    cases h3
    cases h4
    obtain ⟨⟨oc, vc, e1, _, e3, e4⟩, hP⟩ := h6
    have g2 := KX _ _ k4
    rw [g2] at e1
    cases e1
    cases e3
    rw [k5] at e4
    cases e4
    exact hP
  have hT : ∀ P ∈ Pt :: L.map (·.P), s₁.heap.get? P = some { cls := .none, data := .fields #[] } := fun P hP => by
    rcases List.mem_cons.mp hP with rfl | hP
    · exact tabAt LD (hx ▸ hmg) (hx ▸ hrec)
    · obtain ⟨i, hi, rfl⟩ := List.mem_map.mp hP
      obtain ⟨l1, l2, l3⟩ := hL i hi
      exact tabAt l1 l2 l3
  have nT : ∀ P ∈ Pt :: L.map (·.P), (K w.params).lookup P = none := fun P hP => by
    rcases List.mem_cons.mp hP with rfl | hP
    · exact LD.nT
    · obtain ⟨i, hi, rfl⟩ := List.mem_map.mp hP
      exact (hL i hi).1.nT
  have hC : ∀ P ∈ Pt :: L.map (·.P), ∃ c, PySem.W.CodeHd s₁.heap c P := fun P hP => by
    rcases List.mem_cons.mp hP with rfl | hP
    · exact ⟨c, C⟩
    · obtain ⟨i, hi, rfl⟩ := List.mem_map.mp hP
      exact ⟨_, (hL i hi).1.hd KX⟩
  refine law_callT KX G.T.g G.T.b G.T.builtins G.T.nolimit hg hT nT hC G.T.bmain hobj hints (Nat.le_trans hlen hn2) GG hGK hGT fun base H S e0 KB NB TB sho rep => ?_
  obtain ⟨oc, od, kV, doc, pm, an, ct, osl, dd, vs1, sl, file, tf, flags, tg, inF, text, tt, k1, c1, k4, k5, _⟩ := LD.ex
  refine run_ofS (CX := L2.CX l.prog w) (N := N) (ps := [p]) (us := [.ref a]) (vs := [.ref a]) k1 c1 Sc hr e0 (.of_eq (hbd kV doc pm an (.ref c) ct (.ref a))) (.cons rfl .nil) rfl fun hr' => ?_
  refine ⟨_, hF base s₁ H _ KB NB (TB c Pt List.mem_cons_self C) (fun i hi => TB _ _ (List.mem_cons_of_mem _ (List.mem_map_of_mem hi)) ((hL i hi).1.hd KX)) hr' rfl (takes_of rfl rfl rfl rfl), ?_⟩
  have hpl : 1 ≤ N.length := by
    have := Sc.pre
    cases N with
    | nil => cases this
    | cons x r => exact Nat.succ_le_succ (Nat.zero_le _)
  refine sp_start (io := false) (n := 1) (W := WD fun _ _ _ => False) (Q := fun v _ => v = V.bl true) (E := fun _ _ _ => False) ?_ hpl
  obtain ⟨f2, hM⟩ := M ns hlen
  refine ⟨rfl, S, [.scr ns], none, rfl, sho, RepL.cons rep .nil, ?_⟩
  rw [hM]
  intro v H' S' P' _ _ r
  have r : Rep GG H' S' v (.bl true) := r
  cases r
  rfl
end DL

set_option Elab.async false
set_option linter.all false
set_option maxRecDepth 100000
set_option maxHeartbeats 2000000
/-! DL32: list comprehensions of two clauses. -/
namespace DL
open PySem PySem.Spec L2
/-- the second clause's loop -/
def lcI (t : Tgt) (vs : List Nat) (tt : MT) (me : ME) : List D → List D → EV → Option (List D × EV)
  | [], acc, env => some (acc, env)
  | d :: r, acc, env => match setTg t d (wipeE env vs) with
    | none => none
    | some e => match tt e with
      | .ok true e1 => match me e1 with
        | .ok d' _ e2 => match decide (acc.length < sizeLine) with
          | true => lcI t vs tt me r (acc ++ [d']) e2
          | false => none
        | _ => none
      | .ok false e1 => lcI t vs tt me r acc e1
      | _ => none
def lc2E (t : Tgt) (vs : List Nat) (tt : MT) (mi1 : MI) (t1 : Tgt) (vs1 : List Nat) (tt1 : MT) (me : ME) : List D → List D → EV → RE
  | [], acc, env => .ok (.lst acc) true (wipeE env vs)
  | d :: r, acc, env => match setTg t d (wipeE env vs) with
    | none => .bad
    | some e => match tt e with
      | .ok true e1 => match mi1 e1 with
        | .ok ds1 e2 => match lcI t1 vs1 tt1 me ds1 acc e2 with
          | some (acc', e3) => lc2E t vs tt mi1 t1 vs1 tt1 me r acc' e3
          | none => .bad
        | _ => .bad
      | .ok false e1 => lc2E t vs tt mi1 t1 vs1 tt1 me r acc e1
      | _ => .bad
def mLc2 (t : Tgt) (vs : List Nat) (mi : MI) (tt : MT) (mi1 : MI) (t1 : Tgt) (vs1 : List Nat) (tt1 : MT) (me : ME) : ME := fun env => match decide (0 ∉ vs) && decide (∀ i ∈ vs1, i ∈ vs) with
  | true => match mi env with
    | .ok ds e => lc2E t vs tt mi1 t1 vs1 tt1 me ds [] e
    | .exc c fs e => .exc c fs e
    | .bad => .bad
  | false => .bad
theorem wipe2 (E : EV) (vs : List Nat) : wipeE (wipeE E vs) vs = wipeE E vs := by
  refine List.ext_getElem? fun i => ?_
  by_cases hi : i ∈ vs
  · have z : ∀ (τ : EV) (ws : List Nat), i ∈ ws → (wipeE τ ws)[i]? = none ∨ (wipeE τ ws)[i]? = some none := by
      intro τ ws h
      cases hq : (wipeE τ ws)[i]? with
      | none => exact .inl rfl
      | some r =>
        cases r with
        | none => exact .inr rfl
        | some x => exact absurd h (wipeE_some hq).2
    have l1 : (wipeE (wipeE E vs) vs).length = (wipeE E vs).length := wipeE_length _ _
    rcases z (wipeE E vs) vs hi with z1 | z1 <;> rcases z E vs hi with z2 | z2 <;> rw [z1, z2]
    · have := List.getElem?_eq_none_iff.mp z1
      have : (wipeE E vs)[i]? = none := List.getElem?_eq_none (by omega)
      rw [this] at z2; cases z2
    · have := List.getElem?_eq_none_iff.mp z2
      have : (wipeE (wipeE E vs) vs)[i]? = none := List.getElem?_eq_none (by omega)
      rw [this] at z1; cases z1
  · rw [wipeE_out hi]
section
variable {X : Cx} {G : Ctx} {W : WX} {g : Gh} {σ : L2.St} {H H1 H' : Hp} {env env1 : EV} {S S1 : Sset} {P : List (Addr × D)} {Q : VK} {v : V} {d d' : D} {o : Bool} {e : Expr} {m : ME} {pos : Pos} {a : Addr}
theorem tLc2_ok {t t1 : Tgt} {vs vs1 : List Nat} {mi mi1 : MI} {tt tt1 : MT} {me : ME} (hs : ∀ i ∈ slots t, i ∈ vs) (hs1 : ∀ i ∈ slots t1, i ∈ vs1) (h : trE G W (mLc2 t vs mi tt mi1 t1 vs1 tt1 me) σ H Q) :
    tLc2 (trI G W mi) (trG G t) (trT G W0 tt) (trI G W0 mi1) (trG G t1) (trT G W0 tt1) (trE G W0 me) vs vs1 σ H Q := by
  obtain ⟨g, env, S, P, I, h⟩ := h
  refine ⟨g, env, S, P, I, ?_⟩
  unfold mLc2 at h
  cases q0 : decide (0 ∉ vs) && decide (∀ i ∈ vs1, i ∈ vs) with
  | false => simp only [q0] at h; exact h.elim
  | true =>
    obtain ⟨h0, hv⟩ := Bool.and_eq_true_iff.mp q0
    have h0 : 0 ∉ vs := of_decide_eq_true h0
    have hv : ∀ i ∈ vs1, i ∈ vs := of_decide_eq_true hv
    have h01 : 0 ∉ vs1 := fun z => h0 (hv _ z)
    simp only [q0] at h
    cases q : mi env with
    | bad => simp only [q] at h; exact h.elim
    | exc c fs e => simp only [q] at h; exact h
    | ok ds e =>
      simp only [q] at h
      intro J H1 S1 gr I1 hy hz a ha
      have Ib : SI G g (wipe σ vs) H1 (wipeE e vs) S1 P := I1.rew (wipe_length σ vs) h0 fun i hi => wipe_out hi
      have Ia := Ib.extOwn (N := Nul) (H' := L2.upd H1 a (.lst [])) (a := a) (d := .lst []) (Ext.upd ha) (fun _ h => h.elim) ha id ⟨[], upd_same, by show 0 ≤ sizeLine; decide, .nil⟩
      rw [or1_nul] at Ia
      have g1 : Grow S1 H1 S1 (L2.upd H1 a (.lst [])) := grow_upd I1.shH ha
      have hw : ∀ (ds acc : List D) (e : EV), lc2E t vs tt mi1 t1 vs1 tt1 me ds acc (wipeE e vs) = lc2E t vs tt mi1 t1 vs1 tt1 me ds acc e := fun ds acc e => by
        cases ds with
        | nil => simp only [lc2E]; rw [wipe2]
        | cons d r => simp only [lc2E]; rw [wipe2]
      refine ⟨fun i m H' => m = ds.length - i ∧ i ≤ ds.length ∧ ∃ env' S' acc, Grow S1 H1 S' H' ∧ SI G g (wipe σ vs) H' env' S' ((a, .lst acc) :: P) ∧ PostE G W g σ H' S' P Q (lc2E t vs tt mi1 t1 vs1 tt1 me (ds.drop i) acc env'), ⟨ds.length, by simp, Nat.zero_le _, wipeE e vs, S1, [], g1, Ia, by rw [List.drop_zero, hw]; exact h.mono (gr.trans g1)⟩, ?_⟩
      rintro i m H' ⟨rfl, hi, env', S', acc, gr', I', h'⟩
      obtain ⟨hgo, hst⟩ := hy i S' H' gr' I'.shH
      by_cases hlt : i < ds.length
      · obtain ⟨go, yl⟩ := hgo hlt
        refine .inr ⟨go, fun H2 => i + 1 ≤ ds.length ∧ ∃ env2 S2 acc2, Grow S1 H1 S2 H2 ∧ SI G g (wipe σ vs) H2 env2 S2 ((a, .lst acc2) :: P) ∧ PostE G W g σ H2 S2 P Q (lc2E t vs tt mi1 t1 vs1 tt1 me (ds.drop (i + 1)) acc2 env2), fun H2 ⟨l, k⟩ => ⟨ds.length - (i + 1), by omega, rfl, l, k⟩, fun x H3 hx => ?_⟩
        obtain ⟨d, hd, n⟩ := yl x H3 hx
        have ed : ds.drop i = d :: ds.drop (i + 1) := by
          rw [List.drop_eq_getElem_cons hlt]
          have : ds[i] = d := by rw [List.getElem?_eq_getElem hlt] at hd; injection hd
          rw [this]
        rw [ed] at h'
        simp only [lc2E] at h'
        obtain ⟨S3, g3, hv3⟩ := n.val I'
        obtain ⟨I3, r3⟩ := hv3
        have h3 := PostE.mono g3 h'
        have I3' : SI G g (wipe σ vs) H3 (wipeE env' vs) S3 ((a, .lst acc) :: P) := I3.rew rfl h0 fun _ _ => rfl
        cases q2 : setTg t d (wipeE env' vs) with
        | none => simp only [q2] at h3; exact h3.elim
        | some e2 =>
          simp only [q2] at h3
          refine ⟨g, wipeE env' vs, S3, (a, .lst acc) :: P, d, e2, I3', r3, q2, fun σ4 k4 I4 => ⟨keeps_wipe hs k4, g, e2, S3, (a, .lst acc) :: P, I4, ?_⟩⟩
          have back : ∀ {H5 : Hp} {E : EV} {S5 : Sset} {P5 : List (Addr × D)}, SI G g σ4 H5 E S5 P5 → SI G g (wipe σ vs) H5 (wipeE E vs) S5 P5 := fun I5 => I5.rew (by rw [k4.1]) h0 fun i hi => by
            rw [k4.2 i fun z => hi (hs i z)]
          cases q3 : tt e2 with
          | bad => simp only [q3] at h3; exact h3.elim
          | exc c fs e3 => simp only [q3] at h3; exact h3.elim
          | ok b e3 =>
            intro H5 S5 g5 I5
            have h5 := PostE.mono g5 h3
            cases b with
            | false =>
              simp only [q3] at h5
              exact iteF ⟨hlt, wipeE e3 vs, S5, acc, gr'.trans (g3.trans g5), back I5, by rw [hw]; exact h5⟩
            | true =>
              simp only [q3] at h5
              refine iteT ⟨g, e3, S5, (a, .lst acc) :: P, I5, ?_⟩
              cases qi : mi1 e3 with
              | bad => simp only [qi] at h5; exact h5.elim
              | exc c fs e4 => simp only [qi] at h5; exact h5.elim
              | ok ds1 e4 =>
                simp only [qi] at h5
                intro J1 H6 S6 g6 I6 hy1 hz1
                have h6 := PostE.mono g6 h5
                have I6' : SI G g (wipe σ4 vs1) H6 (wipeE e4 vs1) S6 ((a, .lst acc) :: P) := I6.rew (wipe_length σ4 vs1) h01 fun i hi => wipe_out hi
                have hw1 : ∀ (ds acc : List D) (e : EV), lcI t1 vs1 tt1 me ds acc (wipeE e vs1) = (match ds with | [] => some (acc, wipeE e vs1) | _ => lcI t1 vs1 tt1 me ds acc e) := fun ds acc e => by
                  cases ds with
                  | nil => rfl
                  | cons d r => simp only [lcI]; rw [wipe2]
                -- behind the inner loop
                have cont : ∀ (dd : List D) (ac : List D) (E : EV), (match lcI t1 vs1 tt1 me dd ac (wipeE E vs1) with
                    | some (acc', e3) => lc2E t vs tt mi1 t1 vs1 tt1 me (ds.drop (i + 1)) acc' e3
                    | none => .bad) = (match lcI t1 vs1 tt1 me dd ac E with
                    | some (acc', e3) => lc2E t vs tt mi1 t1 vs1 tt1 me (ds.drop (i + 1)) acc' e3
                    | none => .bad) := fun dd ac E => by
                  rw [hw1]
                  cases dd with
                  | nil =>
                    show lc2E t vs tt mi1 t1 vs1 tt1 me (ds.drop (i + 1)) ac (wipeE E vs1) = lc2E t vs tt mi1 t1 vs1 tt1 me (ds.drop (i + 1)) ac E
                    have : wipeE (wipeE E vs1) vs = wipeE E vs := by
                      refine List.ext_getElem? fun i => ?_
                      by_cases hi : i ∈ vs
                      · have z : ∀ (τ : EV) (ws : List Nat), i ∈ ws → (wipeE τ ws)[i]? = none ∨ (wipeE τ ws)[i]? = some none := by
                          intro τ ws h
                          cases hq : (wipeE τ ws)[i]? with
                          | none => exact .inl rfl
                          | some r =>
                            cases r with
                            | none => exact .inr rfl
                            | some x => exact absurd h (wipeE_some hq).2
                        have l1 : (wipeE (wipeE E vs1) vs).length = (wipeE E vs).length := by rw [wipeE_length, wipeE_length, wipeE_length]
                        rcases z (wipeE E vs1) vs hi with z1 | z1 <;> rcases z E vs hi with z2 | z2 <;> rw [z1, z2]
                        · have := List.getElem?_eq_none_iff.mp z1
                          have : (wipeE E vs)[i]? = none := List.getElem?_eq_none (by omega)
                          rw [this] at z2; cases z2
                        · have := List.getElem?_eq_none_iff.mp z2
                          have : (wipeE (wipeE E vs1) vs)[i]? = none := List.getElem?_eq_none (by omega)
                          rw [this] at z1; cases z1
                      · rw [wipeE_out hi, wipeE_out hi, wipeE_out fun z => hi (hv _ z)]
                    rw [← hw, this, hw]
                  | cons d r => rfl
                refine ⟨fun j k H' => k = ds1.length - j ∧ j ≤ ds1.length ∧ ∃ env2 S2 acc2, Grow S6 H6 S2 H' ∧ SI G g (wipe σ4 vs1) H' env2 S2 ((a, .lst acc2) :: P) ∧ PostE G W g σ H' S2 P Q (match lcI t1 vs1 tt1 me (ds1.drop j) acc2 env2 with
                    | some (acc', e3) => lc2E t vs tt mi1 t1 vs1 tt1 me (ds.drop (i + 1)) acc' e3
                    | none => .bad), ⟨ds1.length, by simp, Nat.zero_le _, wipeE e4 vs1, S6, acc, Grow.rfl', I6', by rw [List.drop_zero, cont]; exact h6⟩, ?_⟩
                rintro j k H7 ⟨rfl, hj, env2, S2, acc2, gr2, I7, h7⟩
                obtain ⟨hgo1, hst1⟩ := hy1 j S2 H7 gr2 I7.shH
                by_cases hlt1 : j < ds1.length
                · obtain ⟨go1, yl1⟩ := hgo1 hlt1
                  refine .inr ⟨go1, fun H8 => j + 1 ≤ ds1.length ∧ ∃ env3 S3 acc3, Grow S6 H6 S3 H8 ∧ SI G g (wipe σ4 vs1) H8 env3 S3 ((a, .lst acc3) :: P) ∧ PostE G W g σ H8 S3 P Q (match lcI t1 vs1 tt1 me (ds1.drop (j + 1)) acc3 env3 with
                      | some (acc', e3) => lc2E t vs tt mi1 t1 vs1 tt1 me (ds.drop (i + 1)) acc' e3
                      | none => .bad), fun H8 ⟨l, k⟩ => ⟨ds1.length - (j + 1), by omega, rfl, l, k⟩, fun x1 H8 hx1 => ?_⟩
                  obtain ⟨d1, hd1, n1⟩ := yl1 x1 H8 hx1
                  have ed1 : ds1.drop j = d1 :: ds1.drop (j + 1) := by
                    rw [List.drop_eq_getElem_cons hlt1]
                    have : ds1[j] = d1 := by rw [List.getElem?_eq_getElem hlt1] at hd1; injection hd1
                    rw [this]
                  rw [ed1] at h7
                  simp only [lcI] at h7
                  obtain ⟨S8, g8, hv8⟩ := n1.val I7
                  obtain ⟨I8, r8⟩ := hv8
                  have h8 := PostE.mono g8 h7
                  have I8' : SI G g (wipe σ4 vs1) H8 (wipeE env2 vs1) S8 ((a, .lst acc2) :: P) := by
                    have := I8.rew (σ' := wipe (wipe σ4 vs1) vs1) (wipe_length _ _) h01 fun i hi => wipe_out hi
                    exact I8.rew rfl h01 fun _ _ => rfl
                  cases q5 : setTg t1 d1 (wipeE env2 vs1) with
                  | none => simp only [q5] at h8; exact h8.elim
                  | some e5 =>
                    simp only [q5] at h8
                    refine ⟨g, wipeE env2 vs1, S8, (a, .lst acc2) :: P, d1, e5, I8', r8, q5, fun σ9 k9 I9 => ⟨keeps_wipe hs1 k9, g, e5, S8, (a, .lst acc2) :: P, I9, ?_⟩⟩
                    have back1 : ∀ {H5 : Hp} {E : EV} {S5 : Sset} {P5 : List (Addr × D)}, SI G g σ9 H5 E S5 P5 → SI G g (wipe σ4 vs1) H5 (wipeE E vs1) S5 P5 := fun I5 => I5.rew (by rw [k9.1]) h01 fun i hi => by
                      rw [k9.2 i fun z => hi (hs1 i z)]
                    cases q6 : tt1 e5 with
                    | bad => simp only [q6] at h8; exact h8.elim
                    | exc c fs e6 => simp only [q6] at h8; exact h8.elim
                    | ok b1 e6 =>
                      intro H9 S9 g9 I9'
                      have h9 := PostE.mono g9 h8
                      cases b1 with
                      | false =>
                        simp only [q6] at h9
                        exact iteF ⟨hlt1, wipeE e6 vs1, S9, acc2, gr2.trans (g8.trans g9), back1 I9', by rw [cont]; exact h9⟩
                      | true =>
                        simp only [q6] at h9
                        refine iteT ⟨g, e6, S9, (a, .lst acc2) :: P, I9', ?_⟩
                        cases q7 : me e6 with
                        | bad => simp only [q7] at h9; exact h9.elim
                        | exc c fs e7 => simp only [q7] at h9; exact h9.elim
                        | ok d7 o7 e7 =>
                          simp only [q7] at h9
                          intro y H10 S10 g10 hv10
                          have h10 := PostE.mono g10 h9
                          cases qz : decide (acc2.length < sizeLine) with
                          | false => simp only [qz] at h10; exact h10.elim
                          | true =>
                            simp only [qz] at h10
                            have hzz := of_decide_eq_true qz
                            obtain ⟨S11, g11, I11, r11⟩ := hv10.frz
                            obtain ⟨ws, w1, w2, w3⟩ := (I11.pend (a, .lst acc2) List.mem_cons_self).1.2
                            have hlt' : ws.length < sizeLine := by have := w3.length; omega
                            have nS : ¬ S11 a := (I11.pend (a, .lst acc2) List.mem_cons_self).1.1
                            have g12 : Grow S11 H10 S11 (L2.upd H10 a (.lst (ws ++ [y]))) := fun b hb => ⟨hb, upd_ne (show b ≠ a from fun z => nS (z ▸ hb))⟩
                            have I12 := I11.writeP (u := .lst (ws ++ [y])) (d' := .lst (acc2 ++ [d7])) ⟨_, upd_same, by rw [List.length_append]; exact hlt', (w3.append (.cons r11 .nil)).mono g12⟩
                            refine ⟨ws, w1, hlt', hlt1, wipeE e7 vs1, S11, acc2 ++ [d7], gr2.trans (g8.trans (g9.trans (g10.trans (g11.trans g12)))), back1 I12, ?_⟩
                            rw [cont]
                            exact h10.mono (g11.trans g12)
                · have e0 : ds1.drop j = [] := List.drop_eq_nil_of_le (by omega)
                  rw [e0] at h7
                  simp only [lcI] at h7
                  refine .inl ⟨hst1 (by omega), hlt, wipeE env2 vs, S2, acc2, gr'.trans (g3.trans (g5.trans (g6.trans gr2))), ?_, by rw [hw]; exact h7⟩
                  exact I7.rew (by rw [wipe_length, wipe_length, k4.1, wipe_length]) h0 fun i hi => by
                    rw [wipe_out fun z => hi (hv _ z), k4.2 i fun z => hi (hs i z)]
      · have e0 : ds.drop i = [] := List.drop_eq_nil_of_le (by omega)
        rw [e0] at h'
        simp only [lc2E] at h'
        exact .inl ⟨hst (by omega), h' (.ref a) H' S' Grow.rfl' ⟨a, rfl, I'.rew (by rw [wipe_length]) h0 fun i hi => (wipe_out hi).symm⟩⟩
theorem de_lc2 {elt tg iter tg1 iter1 : Expr} {ifs ifs1 : List Expr} {scope : Scope} {own : List (Str × Nat)} {vs1 : List Nat} {t t1 : Tgt} {mi mi1 : MI} {tt tt1 : MT} {me : ME} (hc : X.calm = true) (hN : X.N.Nodup) (hi : DI X G W tg iter mi) (ok : blkC X.N X.env.scope scope own = true) (hv : ∀ i ∈ vs1, i ∈ own.map (·.2))
    (hg : ∀ (s : Shared) (H : Hp) (C : Addr) (cl : List (Str × Addr)) (fp : List Addr), DG (X.blk s H scope (compEnvC scope cl C X.env) fp) G tg t) (ht : ∀ (s : Shared) (H : Hp) (C : Addr) (cl : List (Str × Addr)) (fp : List Addr), DTs (X.blk s H scope (compEnvC scope cl C X.env) fp) G W0 ifs tt)
    (hi1 : ∀ (s : Shared) (H : Hp) (C : Addr) (cl : List (Str × Addr)) (fp : List Addr), DI (X.blk s H scope (compEnvC scope cl C X.env) fp) G W0 tg1 iter1 mi1)
    (hg1 : ∀ (s : Shared) (H : Hp) (C : Addr) (cl : List (Str × Addr)) (fp : List Addr), DG (X.blk s H scope (compEnvC scope cl C X.env) fp) G tg1 t1) (ht1 : ∀ (s : Shared) (H : Hp) (C : Addr) (cl : List (Str × Addr)) (fp : List Addr), DTs (X.blk s H scope (compEnvC scope cl C X.env) fp) G W0 ifs1 tt1)
    (he : ∀ (s : Shared) (H : Hp) (C : Addr) (cl : List (Str × Addr)) (fp : List Addr), DE (X.blk s H scope (compEnvC scope cl C X.env) fp) G W0 elt me) (hsl : ∀ i ∈ slots t, i ∈ own.map (·.2) := by decide) (hsl1 : ∀ i ∈ slots t1, i ∈ vs1 := by decide)
    (hs : ∀ x, foldedSetIterable iter X.env x = pure x := by intro _; rfl) (hs1 : ∀ env x, foldedSetIterable iter1 env x = pure x := by intro _ _; rfl) :
    DE X G W (.ListComp elt [⟨tg, iter, ifs, 0⟩, ⟨tg1, iter1, ifs1, 0⟩] scope pos) (mLc2 t (own.map (·.2)) mi tt mi1 t1 vs1 tt1 me) :=
  peImp (pe_lc2 hc hN hi (blkOk_by ok) hv hg ht hi1 hg1 ht1 he hs hs1) fun σ H Q h => tLc2_ok hsl hsl1 h
end
end DL

set_option Elab.async false
set_option linter.all false
set_option maxRecDepth 100000
set_option maxHeartbeats 2000000
/-! DL33: dict comprehensions of two clauses, at the model's level. -/
namespace DL
open PySem PySem.Spec PyProof.Rows
section
variable {prog : Program} {w : World} {A : Around} {R : Result → Shared → Prop} {s : Shared}
/-- the tests of a clause, one after the other -/
abbrev passes (ifs : List Expr) (env : Env) : Sem Bool := forIn ifs true fun c r => if r = true then do let ok ← isTrue c env (eval c env); pure (ForInStep.yield ok) else pure (ForInStep.yield r)
/-- what is raised in a block leaves it -/
abbrev outOf (prog : Program) (w : World) (A : Around) (env : Env) (R : Result → Shared → Prop) : Value → Shared → Prop := notedBy (model prog w) A env fun e s' => R (.error e) s'
/-- one clause's loop, whatever is done with what passes -/
theorem clause_loop {e tg : Expr} {d : Nat} {it acc : Value} {env : Env} {p : Pos} {ifs : List Expr} {body : Sem PySem.Fin → Sem PySem.Fin}
    (hT : compTurn e d it acc env = (do
      standAt p
      match ← pyNext it with
      | none => pure (.done .next)
      | some v =>
        letOwnedTupleGo tg it v
        assign tg env v
        let mut ok := true
        for c in ifs do
          if ok then ok ← isTrue c env (eval c env)
        if ok then body (again (.compLoop e d it acc env)) else again (.compLoop e d it acc env)))
    (I : Nat → Shared → Prop)
    (turn : ∀ n s, I n s → wpAny (model prog w) A (pyNext it) (fun r s1 => match r with
      | none => R (.ok .next) s1
      | some v => wpAny (model prog w) A (letOwnedTupleGo tg it v) (fun _ s2 => wpAny (model prog w) A (assign tg env v) (fun _ s3 => wpAny (model prog w) A (passes ifs env) (fun ok s4 =>
          match ok with
          | true => wpAny (model prog w) A (body (again (.compLoop e d it acc env))) (fun f s5 => f = .again (.compLoop e d it acc env) ∧ ∃ m, m < n ∧ I m s5) (outOf prog w A env R) s4
          | false => ∃ m, m < n ∧ I m s4) (outOf prog w A env R) s3) (outOf prog w A env R) s2) (outOf prog w A env R) s1) (outOf prog w A env R) s)
    (n : Nat) (h : I n s) (hA : A.under (.compLoop e d it acc env) = A := by rfl) (hq : (Code.compLoop e d it acc env).quiet = true := by rfl)
    (hD : (model prog w).den (.compLoop e d it acc env) = (compTurn e d it acc env).onRaise (fun x => do noteFrame x env; theTreesLotGoes x) := by rfl) : codeAny (model prog w) A (.compLoop e d it acc env) R s := by
  refine codeAny_loop hq I (fun k s0 hk => ?_) n h
  rw [hA, hD, hT]
  refine wpAny_noted ?_
  refine wpAny_bind (wpAny_standAt ?_)
  refine wpAny_bind (L2.thn (turn k s0 hk) fun r s1 h1 => ?_)
  cases r with
  | none => exact wpAny_pure h1
  | some v =>
    refine wpAny_bind (L2.thn h1 fun _ s2 h2 => ?_)
    refine wpAny_bind (L2.thn h2 fun _ s3 h3 => ?_)
    refine wpAny_bind (L2.thn h3 fun ok s4 h4 => ?_)
    cases ok with
    | false => exact wpAny_pure ⟨rfl, h4⟩
    | true =>
      refine L2.thn h4 fun f s5 h5 => ?_
      obtain ⟨rfl, h5⟩ := h5
      exact ⟨rfl, h5⟩
/-- the second clause of a dict comprehension is begun -/
theorem begin_second {kx vx t0 i0 t1 i1 : Expr} {f0 f1 : List Expr} {sc : Scope} {pos : Pos} {it acc : Value} {env : Env}
    (h0 : codeAny (model prog w) A (.compLoop (.DictComp kx vx [⟨t0, i0, f0, 0⟩, ⟨t1, i1, f1, 0⟩] sc pos) 1 it acc env) R s)
    (h1 : wpAny (model prog w) A (pyIter it) (fun x s' => codeAny (model prog w) A (.compLoop (.DictComp kx vx [⟨t0, i0, f0, 0⟩, ⟨t1, i1, f1, 0⟩] sc pos) 1 x acc env) R s') (outOf prog w A env R) s) :
    codeAny (model prog w) A (.compStart (.DictComp kx vx [⟨t0, i0, f0, 0⟩, ⟨t1, i1, f1, 0⟩] sc pos) 1 it acc env) R s := by
  refine codeAny_of_tree ?_
  show wpAny _ A ((compStart (.DictComp kx vx [⟨t0, i0, f0, 0⟩, ⟨t1, i1, f1, 0⟩] sc pos) 1 it acc env).onRaise _) _ _ s
  unfold compStart
  refine wpAny_notedAt ?_
  show wpAny _ A (ask >>= _) _ _ s
  refine wpAny_bind (wpAny_askSetting (wpAny_ite ?_))
  split
  · first
      | exact wpAny_pure ⟨rfl, h0⟩
      | exact wpAny_bind (wpAny_pure (wpAny_pure ⟨rfl, h0⟩))
  · refine wpAny_bind (wpAny_rule ?_)
    show wpAny _ _ (standAt i1.pos >>= _) _ _ s
    exact wpAny_bind (wpAny_standAt (wpAny_bind (L2.thn h1 fun x s' h' => wpAny_pure ⟨rfl, h'⟩)))
end
end DL

set_option Elab.async false
set_option linter.all false
set_option maxRecDepth 100000
set_option maxHeartbeats 2000000
/-! DL34: dict comprehensions of two clauses, over what is tracked. -/
namespace DL
open PySem PySem.Spec L2
/-- {k: v for .. if .. for .. if ..}: Nx, what holds behind a turn of the first clause; Ny, behind one of the second -/
def tDc2 (wi : TI) (g : TG) (tt : TT) (wi1 : TI) (g1 : TG) (tt1 : TT) (tk tv : TE) (vs vs1 : List Nat) : TE := fun σ H Q => wi σ H fun J H1 => ∀ D, H1 D = none → ∃ Wo : Nat → Nat → Hp → Prop, (∃ m, Wo 0 m (L2.upd H1 D (.dK []))) ∧ ∀ i m H, Wo i m H →
  (J.stop i H ∧ Q (.ref D) H) ∨ (J.go i H ∧ ∃ Nx : Hp → Prop, (∀ H', Nx H' → ∃ m', m' < m ∧ Wo (i + 1) m' H') ∧ ∀ x H', J.yld i H x H' → g x (wipe σ vs) H' fun σ2 H2 => wipe σ2 vs = wipe σ vs ∧ tt σ2 H2 fun b H3 => match b with
    | true => wi1 σ2 H3 fun J1 H4 => ∃ Wi : Nat → Nat → Hp → Prop, (∃ m, Wi 0 m H4) ∧ ∀ j k H, Wi j k H →
      (J1.stop j H ∧ Nx H) ∨ (J1.go j H ∧ ∃ Ny : Hp → Prop, (∀ H', Ny H' → ∃ k', k' < k ∧ Wi (j + 1) k' H') ∧ ∀ x H', J1.yld j H x H' → g1 x (wipe σ2 vs1) H' fun σ3 H5 => wipe σ3 vs1 = wipe σ2 vs1 ∧ tt1 σ3 H5 fun b H6 => match b with
        | true => tk σ3 H6 fun y H7 => tv σ3 H7 fun z H8 => ∃ kvs k, y = kV k ∧ H8 D = some (.dK kvs) ∧ kvs.length < sizeLine ∧ Ny (L2.upd H8 D (.dK (putK kvs k z)))
        | false => Ny H6)
    | false => Nx H3)
section
variable {X : Cx}
/-- the objects of an iterator stand as they were, and nothing of ours is there -/
theorem pinned_at {Y : Cx} {pins : List (Addr × Obj)} {fp : List Addr} {h : Heap} {σ : L2.St} {H : Hp} {s : Shared} (I : Inv Y (pins ++ pinsAt fp h) σ H s) {b : Addr} {o : Obj} (hb : b ∈ fp) (e : h.get? b = some o) : s.heap.get? b = some o ∧ H b = none :=
  let z := I.pin (b, o) (List.mem_append_right _ (List.mem_append_right _ (mem_pinsAt hb e)))
  ⟨z.1, z.2.1⟩
theorem dc2_core {kx vx tg iter tg1 iter1 : Expr} {ifs ifs1 : List Expr} {scope : Scope} {own : List (Str × Nat)} {vs1 : List Nat} {pos pos' : Pos} {wi wi1 : TI} {g g1 : TG} {tt tt1 : TT} {tk tv : TE} {pins : List (Addr × Obj)} {s : Shared} {σ : L2.St} {H : Hp} {Q : VK}
    (hc : X.calm = true) (hN : X.N.Nodup) (I : Inv X pins σ H s) (hi : PI X tg iter wi) (ok : BlkOk X.N X.env.scope scope own) (hv : ∀ i ∈ vs1, i ∈ own.map (·.2))
    (B : ∀ (s : Shared) (H : Hp) (C : Addr) (cl : List (Str × Addr)) (fp : List Addr), PG (X.blk s H scope (compEnvC scope cl C X.env) fp) tg g ∧ PTs (X.blk s H scope (compEnvC scope cl C X.env) fp) ifs tt ∧ PI (X.blk s H scope (compEnvC scope cl C X.env) fp) tg1 iter1 wi1 ∧
      PG (X.blk s H scope (compEnvC scope cl C X.env) fp) tg1 g1 ∧ PTs (X.blk s H scope (compEnvC scope cl C X.env) fp) ifs1 tt1 ∧ PE (X.blk s H scope (compEnvC scope cl C X.env) fp) kx tk ∧ PE (X.blk s H scope (compEnvC scope cl C X.env) fp) vx tv)
    (hs : ∀ x, foldedSetIterable iter X.env x = pure x) (hs1 : ∀ env x, foldedSetIterable iter1 env x = pure x) (h : tDc2 wi g tt wi1 g1 tt1 tk tv (own.map (·.2)) vs1 σ H Q) :
    wpAny (model X.prog X.w) X.A (comprehension (.DictComp kx vx [⟨tg, iter, ifs, 0⟩, ⟨tg1, iter1, ifs1, 0⟩] scope pos) scope X.env pos' newDict false (eval iter X.env) none) (EP X pins σ Q) X.xe s := by
  have hfree : ∀ y ∈ scope.names, y.2 = .free → ∃ c, X.env.cells.lookup y.1 = some c := fun y hy e => (ok.free y hy e).elim (fun k => I.ok.has _ (.inl k)) fun k => I.ok.has _ (.inr k)
  refine wpAny_comprehension_free (use := none) rfl hs (closure_ok hfree) ok.kind (fun y hy e => by rw [ok.uniq y hy, e]) (thn (hi.run pins s σ H _ I h) fun _ s1 hx => thn hx fun _ s2 h2 => ?_)
  obtain ⟨it, fp, St, J, H2, rfl, I2, T, st2, f2, q⟩ := h2
  refine wpAny_newObj_type (newEnv_comp ?_)
  have hDn : H2 s2.heap.objs.size = none := I2.hok.fresh (Nat.le_refl _)
  generalize hD : s2.heap.objs.size = D at hDn
  obtain ⟨Wo, ⟨m0, w0⟩, turn⟩ := q D hDn
  -- the new dict, and the block's own place
  generalize hs3 : ({ s2 with heap := s2.heap.push { cls := .type "dict", data := .dict #[] } } : Shared) = s3
  have e3 : s3.heap = s2.heap.push { cls := .type "dict", data := .dict #[] } := by rw [← hs3]
  have I3 : Inv X pins σ (L2.upd H2 D (.dK [])) s3 := by
    rw [← hs3]
    refine I2.laid (t' := s2.toks) (fun b o e => Heap.get?_push_of_some _ e) (Nat.le_of_eq hD) ?_
    rw [← hD]
    exact dk_empty s2.heap I2.big
  have below : ∀ b ∈ fp, b < s2.heap.objs.size := fun b hb => by
    obtain ⟨o, e, _⟩ := T.obj _ _ st2 b hb
    exact Heap.lt_size e
  have f3 : ∀ b ∈ fp, FpOk X pins (L2.upd H2 D (.dK [])) b ∧ b < s3.heap.objs.size := fun b hb => by
    have hlt := below b hb
    refine ⟨⟨?_, (f2 b hb).2⟩, ?_⟩
    · rw [upd_ne (show b ≠ D from hD ▸ Nat.ne_of_lt hlt)]
      exact (f2 b hb).1
    · rw [e3, Heap.size_push]
      exact Nat.lt_succ_of_lt hlt
  have I4 := block_start I3 ok hN f3
  obtain ⟨pg, pt, pi1, pg1, pt1, pk, pv⟩ := B s3 (L2.upd H2 D (.dK [])) s3.heap.objs.size (cellsFrom (s3.heap.objs.size + 1) scope.names (cloFrom X.env.cells scope.names [])) fp
  show codeAny _ _ (.compStart (.DictComp kx vx [⟨tg, iter, ifs, 0⟩, ⟨tg1, iter1, ifs1, 0⟩] scope pos) 0 (.ref it) (.ref D) (compEnvC scope (cellsFrom (s3.heap.objs.size + 1) scope.names (cloFrom X.env.cells scope.names [])) s3.heap.objs.size X.env)) (compPost (model X.prog X.w) X.A X.xe none (EP X pins σ Q) (.ref D) s3.heap.objs.size) { s3 with heap := pushCells (s3.heap.push { cls := .type "dict", data := .dict #[] }) scope.names }
  generalize hce : compEnvC scope (cellsFrom (s3.heap.objs.size + 1) scope.names (cloFrom X.env.cells scope.names [])) s3.heap.objs.size X.env = ce at I4 pg pt pi1 pg1 pt1 pk pv ⊢
  have cL : ce.locals = s3.heap.objs.size := by subst hce; rfl
  generalize hH3 : L2.upd H2 D (.dK []) = H3 at I3 I4 pg pt pi1 pg1 pt1 pk pv w0 f3
  have n3 : ∀ b ∈ fp, H3 b = none := fun b hb => (f3 b hb).1.1
  have st4 : St 0 (pushCells (s3.heap.push { cls := .type "dict", data := .dict #[] }) scope.names) := T.keep _ _ _ st2 fun b _ o e => pushCells_keeps _ _ _ _ (Heap.get?_push_of_some _ (by rw [e3]; exact Heap.get?_push_of_some _ e))
  generalize hs4 : ({ s3 with heap := pushCells (s3.heap.push { cls := .type "dict", data := .dict #[] }) scope.names } : Shared) = s4 at I4 ⊢
  have st4 : St 0 s4.heap := by rw [← hs4]; exact st4
  generalize hY : X.blk s3 H3 scope ce fp = Y at I4 pg pt pi1 pg1 pt1 pk pv
  -- between two turns of the first clause
  let At (n : Nat) (s' : Shared) : Prop := ∃ i H', Inv Y [] (wipe σ (own.map (·.2))) H' s' ∧ St i s'.heap ∧ (∀ b ∈ fp, H' b = none) ∧ Wo i n H'
  have sto : ∀ {σ' : L2.St} {H' : Hp} {s' : Shared}, Inv Y [] σ' H' s' → (∀ b ∈ fp, H' b = none) → ∀ b ∈ fp, FpOk Y [] H' b := fun {σ' H' s'} J' hn b hb => by
    subst hY
    exact ⟨hn b hb, (J'.ok.exf b hb).1, J'.ok.exfs b hb, .inl hb, fun x c e => (J'.ok.exf b hb).2 x c e, fun p hp => absurd (show p ∈ ([] : List (Addr × Obj)) ++ [] from hp) (by simp)⟩
  have hYs : Y.prog = X.prog ∧ Y.w = X.w ∧ Y.A = X.A ∧ Y.calm = X.calm := by subst hY; exact ⟨rfl, rfl, rfl, rfl⟩
  have loop : codeAny (model X.prog X.w) X.A (.compLoop (.DictComp kx vx [⟨tg, iter, ifs, 0⟩, ⟨tg1, iter1, ifs1, 0⟩] scope pos) 0 (.ref it) (.ref D) ce) (compPost (model X.prog X.w) X.A X.xe none (EP X pins σ Q) (.ref D) s3.heap.objs.size) s4 := by
    subst hY
    refine clause_loop (e := .DictComp kx vx [⟨tg, iter, ifs, 0⟩, ⟨tg1, iter1, ifs1, 0⟩] scope pos) (d := 0) (tg := tg) (ifs := ifs) (p := iter.pos) (body := fun k => do
      let x ← eval iter1 ce
      standAt iter1.pos
      let x ← foldedSetIterable iter1 ce x
      let _ ← runOwn (.compStart (.DictComp kx vx [⟨tg, iter, ifs, 0⟩, ⟨tg1, iter1, ifs1, 0⟩] scope pos) 1 (← holding [x] (pyIter x)) (.ref D) ce) ce
      k) rfl At (fun n s5 ⟨i, H5, I5, st5, n5, w5⟩ => ?_) m0 ⟨0, H3, I4, st4, n3, w0⟩
    rcases turn i n H5 w5 with ⟨stop, qq⟩ | ⟨go, Nx, hNx, step⟩
    · -- nothing is left: back in the def
      refine thnF (T.done (X.blk s3 H3 scope ce fp) rfl rfl rfl hc i [] s5 _ H5 (fun _ _ => False) I5 (sto I5 n5) st5 stop) fun r s6 ⟨hr, I6⟩ => ?_
      subst hr
      have nC : H5 s3.heap.objs.size = none := cL ▸ I6.free
      obtain ⟨m, hn, _⟩ := I6.loc
      have hn : s6.heap.Ns ce.locals m := hn
      rw [cL] at hn
      have I7 : Inv X pins σ H5 s6 := I3.call' (ch := fp) I6.os I6.base I6.hok I6.bare fun b hb => let z := (f3 b hb).1.2; ⟨z.2.2.1, z.1, z.2.2.2.1, z.2.2.2.2⟩
      have fpo := I3.fpOk (Nat.le_refl _) nC
      refine ⟨m, hn, fun h' sb => ⟨.ref D, H5, I7.turned (t' := s6.toks) (fun b o hb e => (sb.2 b hb).trans e) fpo.1 fpo.2.1 fpo.2.2.2.1 fpo.2.2.2.2.1 fpo.2.2.2.2.2, rfl, qq⟩⟩
    · refine thnF (T.item (X.blk s3 H3 scope ce fp) rfl rfl rfl hc i [] s5 _ H5 (fun _ _ => False) I5 (sto I5 n5) st5 go) fun r s6 ⟨u, hr, h6⟩ => ?_
      subst hr
      refine thnF h6 fun _ s7 ⟨x, H7, I7, r7, y7, st7, n7⟩ => ?_
      refine thnF (pg.run _ s7 _ H7 x u _ (I7.pinned (sto I7 n7) (T.obj _ _ st7)) r7 (step x H7 y7)) fun _ s8 ⟨σ8, H8, I8, hw8, q8⟩ => ?_
      refine thnF (pt.run _ s8 σ8 H8 _ I8 q8) fun b s9 ⟨H9, I9, q9⟩ => ?_
      -- what is known at a turn's end is known at the next one's beginning
      have fin : ∀ {σ' : L2.St} {s' : Shared} {H' : Hp}, Inv (X.blk s3 H3 scope ce fp) ([] ++ pinsAt fp s7.heap) σ' H' s' → (wipe σ (own.map (·.2))).length = σ'.length → (∀ (j : Nat) v, (wipe σ (own.map (·.2)))[j]? = some (some v) → σ'[j]? = some (some v)) → Nx H' → ∃ m, m < n ∧ At m s' := fun {σ' s' H'} J' hl hk nx => by
        obtain ⟨m', hm, w'⟩ := hNx H' nx
        refine ⟨m', hm, i + 1, H', (J'.unpinned (pins := [])).weak hl hk, T.keep _ _ _ st7 fun b hb o e => (pinned_at J' hb e).1, fun b hb => ?_, w'⟩
        obtain ⟨o, e, _⟩ := T.obj _ _ st7 b hb
        exact (pinned_at J' hb e).2
      have l8 : (wipe σ (own.map (·.2))).length = σ8.length := by rw [← hw8, wipe_length]
      have k8 : ∀ (j : Nat) v, (wipe σ (own.map (·.2)))[j]? = some (some v) → σ8[j]? = some (some v) := fun j v e => (wipe_some (hw8 ▸ e)).1
      cases b with
      | false => exact fin I9 l8 k8 q9
      | true =>
        refine wpAny_bind (thnF (pi1.run _ s9 σ8 H9 _ I9 q9) fun xv s10 hx => ?_)
        refine wpAny_bind (wpAny_standAt ?_)
        refine wpAny_bind (wpAny_of_eq (hs1 ce xv) ?_)
        refine wpAny_bind (wpAny_holding (thnF hx fun itv s11 h11 => ?_))
        obtain ⟨it1, fp1, St1, J1, H11, rfl, I11, T1, st11, f11, Wi, ⟨m1, w1⟩, turn1⟩ := h11
        have sto1 : ∀ {H' : Hp}, (∀ b ∈ fp1, H' b = none) → ∀ b ∈ fp1, FpOk (X.blk s3 H3 scope ce fp) ([] ++ pinsAt fp s7.heap) H' b := fun hn b hb => ⟨hn b hb, (f11 b hb).2⟩
        have k9 : ∀ (j : Nat) v, (wipe σ (own.map (·.2)))[j]? = some (some v) → (wipe σ8 vs1)[j]? = some (some v) := fun j v e => by
          obtain ⟨e1, e2⟩ := wipe_some (hw8 ▸ e)
          rw [wipe_out fun z => e2 (hv j z)]
          exact e1
        let In (k : Nat) (s' : Shared) : Prop := ∃ j H', Inv (X.blk s3 H3 scope ce fp) ([] ++ pinsAt fp s7.heap) (wipe σ8 vs1) H' s' ∧ St1 j s'.heap ∧ (∀ b ∈ fp1, H' b = none) ∧ Wi j k H'
        have inner : codeAny (model X.prog X.w) X.A (.compLoop (.DictComp kx vx [⟨tg, iter, ifs, 0⟩, ⟨tg1, iter1, ifs1, 0⟩] scope pos) 1 (.ref it1) (.ref D) ce) (fun r s' => match r with | .ok _ => ∃ m, m < n ∧ At m s' | .error _ => False) s11 := by
          refine clause_loop (e := .DictComp kx vx [⟨tg, iter, ifs, 0⟩, ⟨tg1, iter1, ifs1, 0⟩] scope pos) (d := 1) (tg := tg1) (ifs := ifs1) (p := iter1.pos) (body := fun k => do
            (do
              let kv ← eval kx ce
              let vv ← holding [kv] (eval vx ce)
              standAt { kx.pos with endLine := vx.pos.endLine, endCol := vx.pos.endCol }
              holding [kv, vv] (dictSet D kv vv))
            k) rfl In (fun k s12 ⟨j, H12, I12, st12, n12, w12⟩ => ?_) m1 ⟨0, H11, I11.weak (wipe_length _ _) (fun j v e => (wipe_some e).1), st11, fun b hb => (f11 b hb).1, w1⟩
          rcases turn1 j k H12 w12 with ⟨stop1, nx1⟩ | ⟨go1, Ny, hNy, step1⟩
          · refine thnF (T1.done (X.blk s3 H3 scope ce fp) rfl rfl rfl hc j _ s12 (wipe σ8 vs1) H12 (fun _ _ => False) I12 (sto1 n12) st12 stop1) fun r s13 ⟨hr, I13⟩ => ?_
            subst hr
            exact fin I13 (l8.trans (wipe_length σ8 vs1).symm) k9 nx1
          · refine thnF (T1.item (X.blk s3 H3 scope ce fp) rfl rfl rfl hc j _ s12 (wipe σ8 vs1) H12 (fun _ _ => False) I12 (sto1 n12) st12 go1) fun r s13 ⟨u1, hr, h13⟩ => ?_
            subst hr
            refine thnF h13 fun _ s14 ⟨x1, H14, I14, r14, y14, st14, n14⟩ => ?_
            refine thnF (pg1.run _ s14 (wipe σ8 vs1) H14 x1 u1 _ (I14.pinned (sto1 n14) (T1.obj _ _ st14)) r14 (step1 x1 H14 y14)) fun _ s15 ⟨σ15, H15, I15, hw15, q15⟩ => ?_
            refine thnF (pt1.run _ s15 σ15 H15 _ I15 q15) fun b1 s16 ⟨H16, I16, q16⟩ => ?_
            have fin1 : ∀ {s' : Shared} {H' : Hp}, Inv (X.blk s3 H3 scope ce fp) (([] ++ pinsAt fp s7.heap) ++ pinsAt fp1 s14.heap) σ15 H' s' → Ny H' → ∃ m, m < k ∧ In m s' := fun {s' H'} J' ny => by
              obtain ⟨m', hm, w'⟩ := hNy H' ny
              refine ⟨m', hm, j + 1, H', J'.unpinned.weak (by rw [← hw15, wipe_length]) (fun j v e => (wipe_some (hw15 ▸ e)).1), T1.keep _ _ _ st14 fun b hb o e => (pinned_at J' hb e).1, fun b hb => ?_, w'⟩
              obtain ⟨o, e, _⟩ := T1.obj _ _ st14 b hb
              exact (pinned_at J' hb e).2
            cases b1 with
            | false => exact fin1 I16 q16
            | true =>
              refine wpAny_bind (wpAny_bind (thnF (pk.run _ s16 σ15 H16 _ I16 q16) fun z s17 ⟨yk, H17, I17, r17, q17⟩ => ?_))
              refine wpAny_bind (wpAny_holding (thnF (pv.run _ s17 σ15 H17 _ I17 q17) fun z2 s18 ⟨yv, H18, I18, r18, kvs, kk, ek, hD18, hz18, ny⟩ => ?_))
              subst ek
              refine wpAny_bind (wpAny_standAt ?_)
              exact wpAny_holding (d_dictSet (X := X.blk s3 H3 scope ce fp) I18 hD18 hz18 r17 r18 fun s19 I19 => wpAny_pure ⟨rfl, fin1 I19 ny⟩)
        refine wpAny_bind (wpAny_runOwn ?_)
        rw [Around.mark_none]
        refine codeAny_mono (begin_second inner (T1.self X.A 0 _ _ _ st11 inner)) fun r s' hr => ?_
        cases r with
        | ok f => exact wpAny_pure ⟨rfl, hr⟩
        | error e => exact hr.elim
  exact codeAny_compStart_dict loop (T.self X.A 0 _ _ _ st4 loop)
end
end DL

set_option Elab.async false
set_option linter.all false
set_option maxRecDepth 100000
set_option maxHeartbeats 2000000
/-! DL35: dict comprehensions of two clauses, over D. -/
namespace DL
open PySem PySem.Spec L2
/-- the second clause's loop -/
def dcI (t : Tgt) (vs : List Nat) (tt : MT) (mk mv : ME) : List D → List (Key × D) → EV → Option (List (Key × D) × EV)
  | [], acc, env => some (acc, env)
  | d :: r, acc, env => match setTg t d (wipeE env vs) with
    | none => none
    | some e => match tt e with
      | .ok true e1 => match mk e1 with
        | .ok kd _ e2 => match mv e2 with
          | .ok vd _ e3 => match keyD kd with
            | some k => match decide (acc.length < sizeLine) with
              | true => dcI t vs tt mk mv r (putD acc k vd) e3
              | false => none
            | none => none
          | _ => none
        | _ => none
      | .ok false e1 => dcI t vs tt mk mv r acc e1
      | _ => none
def dc2E (t : Tgt) (vs : List Nat) (tt : MT) (mi1 : MI) (t1 : Tgt) (vs1 : List Nat) (tt1 : MT) (mk mv : ME) : List D → List (Key × D) → EV → RE
  | [], acc, env => .ok (.dct acc) true (wipeE env vs)
  | d :: r, acc, env => match setTg t d (wipeE env vs) with
    | none => .bad
    | some e => match tt e with
      | .ok true e1 => match mi1 e1 with
        | .ok ds1 e2 => match dcI t1 vs1 tt1 mk mv ds1 acc e2 with
          | some (acc', e3) => dc2E t vs tt mi1 t1 vs1 tt1 mk mv r acc' e3
          | none => .bad
        | _ => .bad
      | .ok false e1 => dc2E t vs tt mi1 t1 vs1 tt1 mk mv r acc e1
      | _ => .bad
def mDc2 (t : Tgt) (vs : List Nat) (mi : MI) (tt : MT) (mi1 : MI) (t1 : Tgt) (vs1 : List Nat) (tt1 : MT) (mk mv : ME) : ME := fun env => match decide (0 ∉ vs) && decide (∀ i ∈ vs1, i ∈ vs) with
  | true => match mi env with
    | .ok ds e => dc2E t vs tt mi1 t1 vs1 tt1 mk mv ds [] e
    | .exc c fs e => .exc c fs e
    | .bad => .bad
  | false => .bad
section
variable {X : Cx} {G : Ctx} {W : WX} {g : Gh} {σ : L2.St} {H H1 H' : Hp} {env env1 : EV} {S S1 : Sset} {P : List (Addr × D)} {Q : VK} {v : V} {d d' : D} {o : Bool} {e : Expr} {m : ME} {pos : Pos} {a : Addr}
theorem tDc2_ok {t t1 : Tgt} {vs vs1 : List Nat} {mi mi1 : MI} {tt tt1 : MT} {mk mv : ME} (hs : ∀ i ∈ slots t, i ∈ vs) (hs1 : ∀ i ∈ slots t1, i ∈ vs1) (h : trE G W (mDc2 t vs mi tt mi1 t1 vs1 tt1 mk mv) σ H Q) :
    tDc2 (trI G W mi) (trG G t) (trT G W0 tt) (trI G W0 mi1) (trG G t1) (trT G W0 tt1) (trE G W0 mk) (trE G W0 mv) vs vs1 σ H Q := by
  obtain ⟨g, env, S, P, I, h⟩ := h
  refine ⟨g, env, S, P, I, ?_⟩
  unfold mDc2 at h
  cases q0 : decide (0 ∉ vs) && decide (∀ i ∈ vs1, i ∈ vs) with
  | false => simp only [q0] at h; exact h.elim
  | true =>
    obtain ⟨h0, hv⟩ := Bool.and_eq_true_iff.mp q0
    have h0 : 0 ∉ vs := of_decide_eq_true h0
    have hv : ∀ i ∈ vs1, i ∈ vs := of_decide_eq_true hv
    have h01 : 0 ∉ vs1 := fun z => h0 (hv _ z)
    simp only [q0] at h
    cases q : mi env with
    | bad => simp only [q] at h; exact h.elim
    | exc c fs e => simp only [q] at h; exact h
    | ok ds e =>
      simp only [q] at h
      intro J H1 S1 gr I1 hy hz a ha
      have Ib : SI G g (wipe σ vs) H1 (wipeE e vs) S1 P := I1.rew (wipe_length σ vs) h0 fun i hi => wipe_out hi
      have Ia := Ib.extOwn (N := Nul) (H' := L2.upd H1 a (.dK [])) (a := a) (d := .dct []) (Ext.upd ha) (fun _ h => h.elim) ha id ⟨[], upd_same, by show 0 ≤ sizeLine; decide, .nil⟩
      rw [or1_nul] at Ia
      have g1 : Grow S1 H1 S1 (L2.upd H1 a (.dK [])) := grow_upd I1.shH ha
      have hw : ∀ (ds : List D) (acc : List (Key × D)) (e : EV), dc2E t vs tt mi1 t1 vs1 tt1 mk mv ds acc (wipeE e vs) = dc2E t vs tt mi1 t1 vs1 tt1 mk mv ds acc e := fun ds acc e => by
        cases ds with
        | nil => simp only [dc2E]; rw [wipe2]
        | cons d r => simp only [dc2E]; rw [wipe2]
      refine ⟨fun i m H' => m = ds.length - i ∧ i ≤ ds.length ∧ ∃ env' S' acc, Grow S1 H1 S' H' ∧ SI G g (wipe σ vs) H' env' S' ((a, .dct acc) :: P) ∧ PostE G W g σ H' S' P Q (dc2E t vs tt mi1 t1 vs1 tt1 mk mv (ds.drop i) acc env'), ⟨ds.length, by simp, Nat.zero_le _, wipeE e vs, S1, [], g1, Ia, by rw [List.drop_zero, hw]; exact h.mono (gr.trans g1)⟩, ?_⟩
      rintro i m H' ⟨rfl, hi, env', S', acc, gr', I', h'⟩
      obtain ⟨hgo, hst⟩ := hy i S' H' gr' I'.shH
      by_cases hlt : i < ds.length
      · obtain ⟨go, yl⟩ := hgo hlt
        refine .inr ⟨go, fun H2 => i + 1 ≤ ds.length ∧ ∃ env2 S2 acc2, Grow S1 H1 S2 H2 ∧ SI G g (wipe σ vs) H2 env2 S2 ((a, .dct acc2) :: P) ∧ PostE G W g σ H2 S2 P Q (dc2E t vs tt mi1 t1 vs1 tt1 mk mv (ds.drop (i + 1)) acc2 env2), fun H2 ⟨l, k⟩ => ⟨ds.length - (i + 1), by omega, rfl, l, k⟩, fun x H3 hx => ?_⟩
        obtain ⟨d, hd, n⟩ := yl x H3 hx
        have ed : ds.drop i = d :: ds.drop (i + 1) := by
          rw [List.drop_eq_getElem_cons hlt]
          have : ds[i] = d := by rw [List.getElem?_eq_getElem hlt] at hd; injection hd
          rw [this]
        rw [ed] at h'
        simp only [dc2E] at h'
        obtain ⟨S3, g3, hv3⟩ := n.val I'
        obtain ⟨I3, r3⟩ := hv3
        have h3 := PostE.mono g3 h'
        have I3' : SI G g (wipe σ vs) H3 (wipeE env' vs) S3 ((a, .dct acc) :: P) := I3.rew rfl h0 fun _ _ => rfl
        cases q2 : setTg t d (wipeE env' vs) with
        | none => simp only [q2] at h3; exact h3.elim
        | some e2 =>
          simp only [q2] at h3
          refine ⟨g, wipeE env' vs, S3, (a, .dct acc) :: P, d, e2, I3', r3, q2, fun σ4 k4 I4 => ⟨keeps_wipe hs k4, g, e2, S3, (a, .dct acc) :: P, I4, ?_⟩⟩
          have back : ∀ {H5 : Hp} {E : EV} {S5 : Sset} {P5 : List (Addr × D)}, SI G g σ4 H5 E S5 P5 → SI G g (wipe σ vs) H5 (wipeE E vs) S5 P5 := fun I5 => I5.rew (by rw [k4.1]) h0 fun i hi => by
            rw [k4.2 i fun z => hi (hs i z)]
          cases q3 : tt e2 with
          | bad => simp only [q3] at h3; exact h3.elim
          | exc c fs e3 => simp only [q3] at h3; exact h3.elim
          | ok b e3 =>
            intro H5 S5 g5 I5
            have h5 := PostE.mono g5 h3
            cases b with
            | false =>
              simp only [q3] at h5
              exact ⟨hlt, wipeE e3 vs, S5, acc, gr'.trans (g3.trans g5), back I5, by rw [hw]; exact h5⟩
            | true =>
              simp only [q3] at h5
              refine ⟨g, e3, S5, (a, .dct acc) :: P, I5, ?_⟩
              cases qi : mi1 e3 with
              | bad => simp only [qi] at h5; exact h5.elim
              | exc c fs e4 => simp only [qi] at h5; exact h5.elim
              | ok ds1 e4 =>
                simp only [qi] at h5
                intro J1 H6 S6 g6 I6 hy1 hz1
                have h6 := PostE.mono g6 h5
                have I6' : SI G g (wipe σ4 vs1) H6 (wipeE e4 vs1) S6 ((a, .dct acc) :: P) := I6.rew (wipe_length σ4 vs1) h01 fun i hi => wipe_out hi
                have hw1 : ∀ (ds : List D) (acc : List (Key × D)) (e : EV), dcI t1 vs1 tt1 mk mv ds acc (wipeE e vs1) = (match ds with | [] => some (acc, wipeE e vs1) | _ => dcI t1 vs1 tt1 mk mv ds acc e) := fun ds acc e => by
                  cases ds with
                  | nil => rfl
                  | cons d r => simp only [dcI]; rw [wipe2]
                -- behind the inner loop
                have cont : ∀ (dd : List D) (ac : List (Key × D)) (E : EV), (match dcI t1 vs1 tt1 mk mv dd ac (wipeE E vs1) with
                    | some (acc', e3) => dc2E t vs tt mi1 t1 vs1 tt1 mk mv (ds.drop (i + 1)) acc' e3
                    | none => .bad) = (match dcI t1 vs1 tt1 mk mv dd ac E with
                    | some (acc', e3) => dc2E t vs tt mi1 t1 vs1 tt1 mk mv (ds.drop (i + 1)) acc' e3
                    | none => .bad) := fun dd ac E => by
                  rw [hw1]
                  cases dd with
                  | nil =>
                    show dc2E t vs tt mi1 t1 vs1 tt1 mk mv (ds.drop (i + 1)) ac (wipeE E vs1) = dc2E t vs tt mi1 t1 vs1 tt1 mk mv (ds.drop (i + 1)) ac E
                    have : wipeE (wipeE E vs1) vs = wipeE E vs := by
                      refine List.ext_getElem? fun i => ?_
                      by_cases hi : i ∈ vs
                      · have z : ∀ (τ : EV) (ws : List Nat), i ∈ ws → (wipeE τ ws)[i]? = none ∨ (wipeE τ ws)[i]? = some none := by
                          intro τ ws h
                          cases hq : (wipeE τ ws)[i]? with
                          | none => exact .inl rfl
                          | some r =>
                            cases r with
                            | none => exact .inr rfl
                            | some x => exact absurd h (wipeE_some hq).2
                        have l1 : (wipeE (wipeE E vs1) vs).length = (wipeE E vs).length := by rw [wipeE_length, wipeE_length, wipeE_length]
                        rcases z (wipeE E vs1) vs hi with z1 | z1 <;> rcases z E vs hi with z2 | z2 <;> rw [z1, z2]
                        · have := List.getElem?_eq_none_iff.mp z1
                          have : (wipeE E vs)[i]? = none := List.getElem?_eq_none (by omega)
                          rw [this] at z2; cases z2
                        · have := List.getElem?_eq_none_iff.mp z2
                          have : (wipeE (wipeE E vs1) vs)[i]? = none := List.getElem?_eq_none (by omega)
                          rw [this] at z1; cases z1
                      · rw [wipeE_out hi, wipeE_out hi, wipeE_out fun z => hi (hv _ z)]
                    rw [← hw, this, hw]
                  | cons d r => rfl
                refine ⟨fun j k H' => k = ds1.length - j ∧ j ≤ ds1.length ∧ ∃ env2 S2 acc2, Grow S6 H6 S2 H' ∧ SI G g (wipe σ4 vs1) H' env2 S2 ((a, .dct acc2) :: P) ∧ PostE G W g σ H' S2 P Q (match dcI t1 vs1 tt1 mk mv (ds1.drop j) acc2 env2 with
                    | some (acc', e3) => dc2E t vs tt mi1 t1 vs1 tt1 mk mv (ds.drop (i + 1)) acc' e3
                    | none => .bad), ⟨ds1.length, by simp, Nat.zero_le _, wipeE e4 vs1, S6, acc, Grow.rfl', I6', by rw [List.drop_zero, cont]; exact h6⟩, ?_⟩
                rintro j k H7 ⟨rfl, hj, env2, S2, acc2, gr2, I7, h7⟩
                obtain ⟨hgo1, hst1⟩ := hy1 j S2 H7 gr2 I7.shH
                by_cases hlt1 : j < ds1.length
                · obtain ⟨go1, yl1⟩ := hgo1 hlt1
                  refine .inr ⟨go1, fun H8 => j + 1 ≤ ds1.length ∧ ∃ env3 S3 acc3, Grow S6 H6 S3 H8 ∧ SI G g (wipe σ4 vs1) H8 env3 S3 ((a, .dct acc3) :: P) ∧ PostE G W g σ H8 S3 P Q (match dcI t1 vs1 tt1 mk mv (ds1.drop (j + 1)) acc3 env3 with
                      | some (acc', e3) => dc2E t vs tt mi1 t1 vs1 tt1 mk mv (ds.drop (i + 1)) acc' e3
                      | none => .bad), fun H8 ⟨l, k⟩ => ⟨ds1.length - (j + 1), by omega, rfl, l, k⟩, fun x1 H8 hx1 => ?_⟩
                  obtain ⟨d1, hd1, n1⟩ := yl1 x1 H8 hx1
                  have ed1 : ds1.drop j = d1 :: ds1.drop (j + 1) := by
                    rw [List.drop_eq_getElem_cons hlt1]
                    have : ds1[j] = d1 := by rw [List.getElem?_eq_getElem hlt1] at hd1; injection hd1
                    rw [this]
                  rw [ed1] at h7
                  simp only [dcI] at h7
                  obtain ⟨S8, g8, hv8⟩ := n1.val I7
                  obtain ⟨I8, r8⟩ := hv8
                  have h8 := PostE.mono g8 h7
                  have I8' : SI G g (wipe σ4 vs1) H8 (wipeE env2 vs1) S8 ((a, .dct acc2) :: P) := by
                    have := I8.rew (σ' := wipe (wipe σ4 vs1) vs1) (wipe_length _ _) h01 fun i hi => wipe_out hi
                    exact I8.rew rfl h01 fun _ _ => rfl
                  cases q5 : setTg t1 d1 (wipeE env2 vs1) with
                  | none => simp only [q5] at h8; exact h8.elim
                  | some e5 =>
                    simp only [q5] at h8
                    refine ⟨g, wipeE env2 vs1, S8, (a, .dct acc2) :: P, d1, e5, I8', r8, q5, fun σ9 k9 I9 => ⟨keeps_wipe hs1 k9, g, e5, S8, (a, .dct acc2) :: P, I9, ?_⟩⟩
                    have back1 : ∀ {H5 : Hp} {E : EV} {S5 : Sset} {P5 : List (Addr × D)}, SI G g σ9 H5 E S5 P5 → SI G g (wipe σ4 vs1) H5 (wipeE E vs1) S5 P5 := fun I5 => I5.rew (by rw [k9.1]) h01 fun i hi => by
                      rw [k9.2 i fun z => hi (hs1 i z)]
                    cases q6 : tt1 e5 with
                    | bad => simp only [q6] at h8; exact h8.elim
                    | exc c fs e6 => simp only [q6] at h8; exact h8.elim
                    | ok b1 e6 =>
                      intro H9 S9 g9 I9'
                      have h9 := PostE.mono g9 h8
                      cases b1 with
                      | false =>
                        simp only [q6] at h9
                        exact ⟨hlt1, wipeE e6 vs1, S9, acc2, gr2.trans (g8.trans g9), back1 I9', by rw [cont]; exact h9⟩
                      | true =>
                        simp only [q6] at h9
                        refine ⟨g, e6, S9, (a, .dct acc2) :: P, I9', ?_⟩
                        cases q7 : mk e6 with
                        | bad => simp only [q7] at h9; exact h9.elim
                        | exc c fs e7 => simp only [q7] at h9; exact h9.elim
                        | ok d7 o7 e7 =>
                          simp only [q7] at h9
                          intro y H10 S10 g10 hv10
                          obtain ⟨S11, g11, I11, r11⟩ := hv10.frz
                          have h11 := PostE.mono (g10.trans g11) h9
                          refine ⟨g, e7, S11, (a, .dct acc2) :: P, I11, ?_⟩
                          cases q8 : mv e7 with
                          | bad => simp only [q8] at h11; exact h11.elim
                          | exc c fs e8 => simp only [q8] at h11; exact h11.elim
                          | ok d8 o8 e8 =>
                            simp only [q8] at h11
                            intro z H12 S12 g12 hv12
                            obtain ⟨S13, g13, I13, r13⟩ := hv12.frz
                            have h13 := PostE.mono (g12.trans g13) h11
                            cases qk : keyD d7 with
                            | none => simp only [qk] at h13; exact h13.elim
                            | some kk =>
                              simp only [qk] at h13
                              cases qz : decide (acc2.length < sizeLine) with
                              | false => simp only [qz] at h13; exact h13.elim
                              | true =>
                                simp only [qz] at h13
                                have hzz := of_decide_eq_true qz
                                have r11' := r11.mono (g12.trans g13)
                                obtain ⟨ek, hko⟩ := keyD_ok qk (.inl r11')
                                obtain ⟨ws, w1, w2, w3⟩ := (I13.pend (a, .dct acc2) List.mem_cons_self).1.2
                                have hlt' : ws.length < sizeLine := by have := w3.length; omega
                                have nS : ¬ S13 a := (I13.pend (a, .dct acc2) List.mem_cons_self).1.1
                                have g14 : Grow S13 H12 S13 (L2.upd H12 a (.dK (putK ws kk z))) := fun b hb => ⟨hb, upd_ne (show b ≠ a from fun z => nS (z ▸ hb))⟩
                                have I14 := I13.writeP (u := .dK (putK ws kk z)) (d' := .dct (putD acc2 kk d8)) ⟨_, upd_same, by have := length_putK ws kk z; omega, (RepK.put hko r13 w3).mono g14⟩
                                refine ⟨ws, kk, ek, w1, hlt', hlt1, wipeE e8 vs1, S13, putD acc2 kk d8, gr2.trans (g8.trans (g9.trans (g10.trans (g11.trans (g12.trans (g13.trans g14)))))), back1 I14, ?_⟩
                                rw [cont]
                                exact h13.mono g14
                · have e0 : ds1.drop j = [] := List.drop_eq_nil_of_le (by omega)
                  rw [e0] at h7
                  simp only [dcI] at h7
                  refine .inl ⟨hst1 (by omega), hlt, wipeE env2 vs, S2, acc2, gr'.trans (g3.trans (g5.trans (g6.trans gr2))), ?_, by rw [hw]; exact h7⟩
                  exact I7.rew (by rw [wipe_length, wipe_length, k4.1, wipe_length]) h0 fun i hi => by
                    rw [wipe_out fun z => hi (hv _ z), k4.2 i fun z => hi (hs i z)]
      · have e0 : ds.drop i = [] := List.drop_eq_nil_of_le (by omega)
        rw [e0] at h'
        simp only [dc2E] at h'
        exact .inl ⟨hst (by omega), h' (.ref a) H' S' Grow.rfl' ⟨a, rfl, I'.rew (by rw [wipe_length]) h0 fun i hi => (wipe_out hi).symm⟩⟩
theorem de_dc2 {kx vx tg iter tg1 iter1 : Expr} {ifs ifs1 : List Expr} {scope : Scope} {own : List (Str × Nat)} {vs1 : List Nat} {t t1 : Tgt} {mi mi1 : MI} {tt tt1 : MT} {mk mv : ME} (hc : X.calm = true) (hN : X.N.Nodup) (hi : DI X G W tg iter mi) (ok : blkC X.N X.env.scope scope own = true) (hv : ∀ i ∈ vs1, i ∈ own.map (·.2))
    (hg : ∀ (s : Shared) (H : Hp) (C : Addr) (cl : List (Str × Addr)) (fp : List Addr), DG (X.blk s H scope (compEnvC scope cl C X.env) fp) G tg t) (ht : ∀ (s : Shared) (H : Hp) (C : Addr) (cl : List (Str × Addr)) (fp : List Addr), DTs (X.blk s H scope (compEnvC scope cl C X.env) fp) G W0 ifs tt)
    (hi1 : ∀ (s : Shared) (H : Hp) (C : Addr) (cl : List (Str × Addr)) (fp : List Addr), DI (X.blk s H scope (compEnvC scope cl C X.env) fp) G W0 tg1 iter1 mi1)
    (hg1 : ∀ (s : Shared) (H : Hp) (C : Addr) (cl : List (Str × Addr)) (fp : List Addr), DG (X.blk s H scope (compEnvC scope cl C X.env) fp) G tg1 t1) (ht1 : ∀ (s : Shared) (H : Hp) (C : Addr) (cl : List (Str × Addr)) (fp : List Addr), DTs (X.blk s H scope (compEnvC scope cl C X.env) fp) G W0 ifs1 tt1)
    (hk : ∀ (s : Shared) (H : Hp) (C : Addr) (cl : List (Str × Addr)) (fp : List Addr), DE (X.blk s H scope (compEnvC scope cl C X.env) fp) G W0 kx mk) (he : ∀ (s : Shared) (H : Hp) (C : Addr) (cl : List (Str × Addr)) (fp : List Addr), DE (X.blk s H scope (compEnvC scope cl C X.env) fp) G W0 vx mv)
    (hsl : ∀ i ∈ slots t, i ∈ own.map (·.2) := by decide) (hsl1 : ∀ i ∈ slots t1, i ∈ vs1 := by decide)
    (hs : ∀ x, foldedSetIterable iter X.env x = pure x := by intro _; rfl) (hs1 : ∀ env x, foldedSetIterable iter1 env x = pure x := by intro _ _; rfl) :
    DE X G W (.DictComp kx vx [⟨tg, iter, ifs, 0⟩, ⟨tg1, iter1, ifs1, 0⟩] scope pos) (mDc2 t (own.map (·.2)) mi tt mi1 t1 vs1 tt1 mk mv) := by
  refine peImp (t := tDc2 (trI G W mi) (trG G t) (trT G W0 tt) (trI G W0 mi1) (trG G t1) (trT G W0 tt1) (trE G W0 mk) (trE G W0 mv) (own.map (·.2)) vs1) ⟨fun pins s σ H Q I h => ?_⟩ fun σ H Q h => tDc2_ok hsl hsl1 h
  rw [arm_eval_DictComp]
  exact dc2_core hc hN I hi (blkOk_by ok) hv (fun s H C cl fp => ⟨hg s H C cl fp, ht s H C cl fp, hi1 s H C cl fp, hg1 s H C cl fp, ht1 s H C cl fp, hk s H C cl fp, he s H C cl fp⟩) hs hs1 h
end
end DL

set_option Elab.async false
set_option linter.all false
set_option maxRecDepth 100000
set_option maxHeartbeats 1000000
/-! DL36: defs that call themselves (by fuel), keyword calls of defs, d.get(k, x), xs.pop(), xs * i, is of bools, in over any data, list(script). -/
namespace DL
open PySem PySem.Spec L2
section
variable {X : Cx} {G : Ctx} {W : WX} {g : Gh} {σ : L2.St} {H H1 : Hp} {env : EV} {S : Sset} {P : List (Addr × D)} {Q : VK}
/-- no fuel, no promise -/
theorem fn_bad {Pr : Program} {w : World} {K : PySem.W.Frag} {mg : Str → Option Value} {base : Heap} {CX : CXT} {k : Nat} {f : Addr} {fd : FuncData} {ps : List Str} {io : Bool} : FnOk Pr w K mg base CX k f fd ps (SpF G io ps.length fun _ => .bad) :=
  ⟨fun vs H Q E h => h.1, fun A outer s H args us vs Q E hr e0 hb r h => by
    obtain ⟨_, _, _, _, _, _, _, z⟩ := h
    exact z.elim⟩
/-! ### f(k = e, ..) -/
def mCallK (c : FN) (ms : List ME) (pd : List D → List D) : ME := bindL ms fun ds => ansE none (c (pd ds))
/-- the keywords' values -/
abbrev DK (X : Cx) (G : Ctx) (W : WX) (kws : List Keyword) (ms : List ME) := PK X kws (trL G W ms)
theorem pkImp {kws : List Keyword} {t t' : TA} (h : PK X kws t) (i : ∀ σ H Q, t' σ H Q → t σ H Q) : PK X kws t' := ⟨fun pos pins s σ H Q I q => h.run pos pins s σ H Q I (i _ _ _ q)⟩
theorem dk_nil : DK X G W [] [] := pkImp pk_nil fun σ H Q ⟨g, env, S, P, I, h⟩ => h [] H S Grow.rfl' I .nil rfl
theorem dk_cons {nm : Option Str} {e : Expr} {m : ME} {ms : List ME} {kpos : Pos} {kws : List Keyword} (he : DE X G W e m) (hr : DK X G W kws ms) : DK X G W (⟨nm, e, kpos⟩ :: kws) (m :: ms) :=
  pkImp (pk_cons he hr) fun σ H Q ⟨g, env, S, P, I, h⟩ => by
    refine ⟨g, env, S, P, I, ?_⟩
    unfold evL at h
    cases q : m env with
    | ok d o e1 =>
      simp only [q] at h
      intro v H1 S1 gr hv
      obtain ⟨S2, g2, I2, r2⟩ := hv.frz
      have h := h.mono (gr.trans g2)
      refine ⟨g, e1, S2, P, I2, ?_⟩
      cases q2 : evL ms e1 with
      | ok ds e2 =>
        simp only [q2] at h
        intro vs H3 S3 g3 I3 r3 l3
        exact h (v :: vs) H3 S3 g3 I3 (.cons (r2.mono g3) r3) (by rw [List.length_cons, List.length_cons, l3])
      | exc c fs e2 => simp only [q2] at h; exact h
      | bad => simp only [q2] at h; exact h.elim
    | exc c fs e1 => simp only [q] at h; exact h
    | bad => simp only [q] at h; exact h.elim
/-- a def called with keywords alone -/
structure CalK (P : Program) (w : World) (K : PySem.W.Frag) (mg : Str → Option Value) (base : Heap) (G : Ctx) (x : Str) (n k : Nat) (c : FN) (ks : List Str) (pd : List D → List D) : Prop where
  ex : ∃ (f : Addr) (fd : FuncData) (ps : List Str) (gg : List Value → List Value → List Value) (gV : List V → List V → List V), FnOk P w K mg base (L2.CX P w) k f fd ps (SpF G false n c) ∧ mg x = some (.ref f) ∧ PySem.W.keepIn K (.ref f) = true ∧ KBn K fd ps 0 ks gg gV ∧
    ∀ (H : Hp) (S : Sset) (zs : List V) (ds : List D), zs.length = ks.length → RepL G H S zs ds → (gV [] zs).length = n ∧ RepL G H S (gV [] zs) (pd ds)
theorem de_calK {kws : List Keyword} {ks : List Str} {ms : List ME} {pd : List D → List D} {x : Str} {n k j : Nat} {c : FN} {p pos : Pos} (C : CalK X.prog X.w X.K X.mg X.base G x n k c ks pd) (hr : Room j X.A) (hkj : k ≤ j) (tk : Takes X W) (hkw : DK X G W kws ms) (hg : Gl X x := by rfl) (hik : ms.length = ks.length := by rfl)
    (hall : (backToKw pos (keywordEach kws X.env)).all (·.1.isSome) = true := by rfl) (hks : (backToKw pos (keywordEach kws X.env)).filterMap (·.1) = ks := by rfl) (hdb : (x == ("__debug__" : Str)) = false := by decide)
    (hpl : ((backTo pos (starEach [] X.env)).any (·.1) || (backToKw pos (keywordEach kws X.env)).any (·.1.isNone)) = false := by rfl) : DE X G W (.Call (.Name x p) [] kws pos) (mCallK c ms pd) := by
  obtain ⟨f, fd, ps, gg, gV, F, hm, hk, hb, hp⟩ := C.ex
  refine ⟨fun pins s σ H Q I h => ?_⟩
  obtain ⟨g, env, S, P, I0, h⟩ := h
  refine wpAny_Call_Name_kw (ld_glob I hg hm ?_ hdb)
  refine PySem.W.callWith_KW0 (h₀ := X.base) I.ok.mod.kin hk hall ?_ hpl
  refine thn (hkw.run pos pins s σ H (fun zs H1 => SpF G false n c (gV [] zs) H1 Q (fun cls dd H => W cls dd σ H) ∧ zs.length = ms.length) I (bindL_ok I0 h fun ds env1 vs H1 S1 gr I1 r l h => ?_)) fun ws s2 ⟨zs, H2, I2, rz, q, lz⟩ => ⟨I2.kIn, ?_⟩
  · obtain ⟨z1, z2⟩ := hp H1 S1 vs ds (by rw [l, hik]) r
    exact ⟨sp_call I1 z2 z1 h, l⟩
  · rw [hks]
    have rc := F.run X.A X.stack s2 H2 ⟨[], ks.zip ws⟩ (gg [] ws) (gV [] zs) Q _ (hr.mono hkj) I2.env0 (hb.to s2 [] ws I2.kIn rfl (by rw [← rz.length, lz, hik])) (hb.rel .nil rz) q
    have hx := passAt tk σ
    refine wpAny_call (codeAny_mono rc fun r s' hq => ?_)
    cases r with
    | error e => exact hx pins H2 s2 e s' I2 hq
    | ok fl =>
      cases fl with
      | ret u => exact I2.after hq
      | next => exact False.elim hq
      | brk => exact False.elim hq
      | cont => exact False.elim hq
/-! ### d.get(k, x) -/
def getP (d y z : D) : RP := match d with
  | .dct kvs => (match keyD y with
    | some k => some ((lookD kvs k).getD z, false)
    | none => none)
  | _ => none
def isDct : Option D → Bool
  | some (.dct _) => true
  | _ => false
def mGet (a b : Opn) (c : ME) : ME := bindO a fun pa env => match isDct (dat pa env) with
  | true => bindO b (fun pb => bindE c fun z env => match dat pa env, dat pb env with
    | some x, some y => liftP (getP x y z) env
    | _, _ => .bad) env
  | false => .bad
theorem de_get {o e f : Expr} {oa ob : Opn} {mc : ME} {apos cpos : Pos} (hu : X.A.units + 1 < cLine) (ho : DO X G W o oa) (he : DO X G W e ob) (hf : DE X G W f mc) (hbase : attributeBase o "get" X.env (eval o X.env) = eval o X.env := by rfl)
    (hfew : ((backTo cpos (starEach [e, f] X.env)).all (fun x => !x.1) && (backToKw cpos (keywordEach [] X.env)).all (fun x => x.1.isSome)
      && decide (([e, f] : List Expr).length + ([] : List Keyword).length + (if ([] : List Keyword).isEmpty then 0 else 1) < 30)) = true := by rfl) (hline : (apos.endLine == cpos.line) = true := by rfl)
    (htr : backTo cpos (starEach [e, f] X.env) = [(false, eval e X.env), (false, eval f X.env)] := by rfl) : DE X G W (.Call (.Attribute o "get" apos) [e, f] [] cpos) (mGet oa ob mc) :=
  peImp (pe_dget2 hu ho.pe he.pe hf ⟨hbase, hfew, hline, htr⟩) fun σ H Q ⟨g, env, S, P, I, h⟩ => by
    refine bindO_ok I h fun pa env1 v H1 S1 g1 I1 ha h => ?_
    cases q : isDct (dat pa env1) with
    | false => simp only [q] at h; exact h.elim
    | true =>
      simp only [q] at h
      cases q2 : dat pa env1 with
      | none => rw [q2] at q; cases q
      | some x1 =>
        cases x1 with
        | dct kvs1 =>
          obtain ⟨a, vs1, rfl, e1, _, _⟩ := (dat_ok I1 ha q2).dct
          refine ⟨a, rfl, .inl ⟨vs1, .inl e1⟩, bindO_ok I1 h fun pb env2 w H2 S2 g2 I2 hb h => bindE_ok I2 h fun zd env3 z H3 S3 g3 I3 rz h => ?_⟩
          have ha := ha.mono (g2.trans g3)
          have hb := hb.mono g3
          cases ea : dat pa env3 with
          | none => simp only [ea] at h; exact h.elim
          | some x =>
            cases eb : dat pb env3 with
            | none => simp only [ea, eb] at h; exact h.elim
            | some y =>
                simp only [ea, eb] at h
                obtain ⟨d, o, ee, k⟩ := liftP_ok I3 h
                have rx := dat_ok I3 ha ea
                have ry := dat_ok I3 hb eb
                cases x with
                | dct kvs =>
                  obtain ⟨a', vs, e0, h1, h2, h3⟩ := rx.dct
                  cases e0
                  simp only [getP] at ee
                  cases qk : keyD y with
                  | none => rw [qk] at ee; cases ee
                  | some kk =>
                    rw [qk] at ee
                    obtain ⟨rfl, rfl⟩ := Prod.mk.inj (Option.some.inj ee)
                    obtain ⟨ev, _⟩ := keyD_ok qk ry
                    obtain ⟨l1, l2⟩ := h3.look (κ' := ()) (k := kk)
                    refine ⟨valV vs kk, .inl ⟨vs, kk, .inl h1, ev, rfl⟩, ?_⟩
                    cases ql : lookD kvs kk with
                    | none =>
                      rw [l2 ql]
                      exact k _ _ (New.same (by rw [ql]; exact rz))
                    | some dd =>
                      obtain ⟨v', w1, w2⟩ := l1 dd ql
                      rw [w1]
                      exact k _ _ (New.same (by rw [ql]; exact w2))
                | _ => cases ee
        | _ => rw [q2] at q; cases q
/-! ### small ones -/
theorem de_pop0 {i : Nat} {o : Expr} {apos cpos : Pos} (ho : PE X o (tVar i)) (hbase : attributeBase o "pop" X.env (eval o X.env) = eval o X.env := by rfl) (hline : (apos.endLine == cpos.line) = true := by rfl) :
    DE X G W (.Call (.Attribute o "pop" apos) [] [] cpos) (mMt i popP []) :=
  de_mt0 (id := "list.pop") (fun te σ H Q h => h) (pe_bm0 PySem.F.plainAttrs_list PySem.F.slot_list_pop PySem.F.type_list_pop mt_pop ho hbase hline) popP_ok
/-- a list times a whole number -/
def repP : D → D → RP
  | .lst ds, .int k => match decide (-(2 ^ 63) ≤ k) && (decide (k < 2 ^ 63) && decide (ds.length * k.toNat ≤ sizeLine)) with
    | true => some (.lst (List.replicate k.toNat ds).flatten, true)
    | false => none
  | _, _ => none
theorem RepL.rep {vs : List V} {ds : List D} (h : RepL G H S vs ds) : ∀ n : Nat, RepL G H S (List.replicate n vs).flatten (List.replicate n ds).flatten
  | 0 => .nil
  | n + 1 => by
    rw [List.replicate_succ, List.replicate_succ, List.flatten_cons, List.flatten_cons]
    exact h.append (RepL.rep h n)
theorem repP_ok : P2 G rRep repP := fun H S v w x y d o Q hS rx ry e k => by
  cases x <;> cases y <;> simp only [repP, reduceCtorEq] at e
  rename_i ds i
  split at e
  · rename_i hc
    cases e
    obtain ⟨c1, c2⟩ := Bool.and_eq_true_iff.mp hc
    obtain ⟨c2, c3⟩ := Bool.and_eq_true_iff.mp c2
    have c1 := of_decide_eq_true c1
    have c2 := of_decide_eq_true c2
    have c3 := of_decide_eq_true c3
    obtain ⟨a, vs, rfl, h1, h2, h3⟩ := rx.lst
    have hr := h3.rep i.toNat
    have hl : (List.replicate i.toNat vs).flatten.length ≤ sizeLine := by
      rw [List.length_flatten, List.map_replicate, List.sum_replicate_nat, h3.length, Nat.mul_comm]
      exact c3
    exact ⟨a, i, vs, rfl, ry.int, h1, c1, c2, by rw [h3.length]; exact c3, fun p hp => k _ _ (New.lst hS hp hr hl)⟩
  · cases e
/-- is of truth values -/
def isBP (neg : Bool) : D → D → RP
  | .bl a, .bl b => some (.bl (if neg then !decide (a = b) else decide (a = b)), false)
  | _, _ => none
theorem isBP_ok : P2 G rIsB (isBP false) := fun H S v w x y d o Q hS rx ry e k => by
  cases x <;> cases y <;> simp only [isBP, reduceCtorEq] at e
  cases e
  exact ⟨_, _, rx.bl, ry.bl, k_bl k⟩
theorem isNotBP_ok : P2 G rNotB (isBP true) := fun H S v w x y d o Q hS rx ry e k => by
  cases x <;> cases y <;> simp only [isBP, reduceCtorEq] at e
  cases e
  exact ⟨_, _, rx.bl, ry.bl, k_bl k⟩
/-- x in xs, data of any kind -/
def inDP (neg : Bool) : D → D → RP
  | x, .lst ds => match okDep x && okDep (.lst ds) with
    | true => some (.bl (if neg then !(ds.any fun z => eqD z x) else ds.any fun z => eqD z x), false)
    | false => none
  | _, _ => none
theorem any_py {x : D} {p : PyData} (hx : pyD x = some p) : ∀ {ds : List D} {ps : List PyData}, pyL ds = some ps → (ps.any fun z => PyData.eqv z p) = ds.any fun z => eqD z x
  | [], ps, e => by simp only [pyL] at e; cases e; rfl
  | d :: r, ps, e => by
    simp only [pyL] at e
    cases q1 : pyD d with
    | none => simp [q1] at e
    | some a =>
      cases q2 : pyL r with
      | none => simp [q1, q2] at e
      | some l =>
        simp [q1, q2] at e
        subst e
        rw [List.any_cons, List.any_cons, any_py hx q2, eqD_py q1 hx]
theorem inDP_sp {K : PySem.W.Frag} (hK : G.K = K) {neg : Bool} {x y d : D} {v w : V} {o : Bool} (rx : RepB G H S v x) (ry : RepB G H S w y) (e : inDP neg x y = some (d, o)) : ∃ p ps, Dp K H v p ∧ Dp K H w (.list ps) ∧ SeqAt.shaped p = true ∧ SeqAt.shaped (.list ps) = true ∧ d = .bl (if neg then !(ps.any fun z => PyData.eqv z p) else ps.any fun z => PyData.eqv z p) ∧ o = false := by
  cases y with
  | lst ds =>
    unfold inDP at e
    simp only at e
    split at e
    · rename_i hc
      cases e
      obtain ⟨c1, c2⟩ := Bool.and_eq_true_iff.mp hc
      obtain ⟨p, h1, h2, h3⟩ := okDep_py hK c1 rx
      obtain ⟨q, k1, k2, k3⟩ := okDep_py hK c2 ry
      cases qp : pyL ds with
      | none => simp [pyD, qp] at k1
      | some ps =>
        simp [pyD, qp] at k1
        subst k1
        exact ⟨p, ps, h2, k2, h3, k3, by rw [any_py h1 qp], rfl⟩
    · cases e
  | _ => simp [inDP] at e
theorem inDP_ok {K : PySem.W.Frag} (hK : G.K = K) : P2 G (rInD K) (inDP false) := fun H S v w x y d o Q hS rx ry e k => by
  obtain ⟨p, ps, h1, h2, h3, h4, rfl, rfl⟩ := inDP_sp hK rx ry e
  exact ⟨p, ps, h1, h2, h3, h4, k_bl k⟩
theorem notInDP_ok {K : PySem.W.Frag} (hK : G.K = K) : P2 G (rNotInD K) (inDP true) := fun H S v w x y d o Q hS rx ry e k => by
  obtain ⟨p, ps, h1, h2, h3, h4, rfl, rfl⟩ := inDP_sp hK rx ry e
  exact ⟨p, ps, h1, h2, h3, h4, k_bl k⟩
/-- list(xs), the script too -/
theorem ints_repD (ns : List Int) : RepL G H S (ns.map V.int) (ns.map D.int) := by
  induction ns with
  | nil => exact .nil
  | cons i r ih => exact .cons .int ih
theorem listP_all {K : PySem.W.Frag} (hK : G.K = K) : P1 G (fun v H Q => ∃ p ys, [v] = [V.ref p] ∧ (SqL K H p ys ∨ SqT K H p ys) ∧ ∀ l, H l = none → Q (.ref l) (L2.upd H l (.lst ys))) listP := fun H S v x d o Q hS rx e k => by
  cases x <;> simp only [listP, reduceCtorEq] at e
  case tup =>
    cases e
    obtain ⟨a, vs, rfl, h1, h2, h3⟩ := rx.tup hK
    exact ⟨a, vs, rfl, .inr h1, fun l hl => k _ _ (New.lst hS hl h3 h2)⟩
  case lst =>
    cases e
    obtain ⟨a, vs, rfl, h1, h2, h3⟩ := rx.lst
    exact ⟨a, vs, rfl, .inl (SqL.of h1), fun l hl => k _ _ (New.lst hS hl h3 h2)⟩
  case scr ns =>
    cases e
    obtain ⟨a, rfl, h1, hz⟩ := rx.scr
    exact ⟨a, ns.map V.int, rfl, .inl (scr_sq hK h1), fun l hl => k _ _ (New.lst hS hl (ints_repD ns) (by rw [List.length_map]; exact hz))⟩
end
end DL

set_option Elab.async false
set_option linter.all false
set_option maxRecDepth 100000
set_option maxHeartbeats 1000000
/-! DL37: a, b, c = x, y, z: what is owned stays owned. -/
namespace DL
open PySem PySem.Spec L2
/-- values held, the last one first; the owned ones are pending -/
inductive Held (G : Ctx) (H : Hp) (S : Sset) : List V → List (D × Bool) → List (Addr × D) → Prop
  | nil : Held G H S [] [] []
  | sh {v d vs l P} : Rep G H S v d → Held G H S vs l P → Held G H S (v :: vs) ((d, false) :: l) P
  | ow {a d vs l P} : Held G H S vs l P → Held G H S (.ref a :: vs) ((d, true) :: l) ((a, d) :: P)
def mOwnL : List ME → List (D × Bool) → (List (D × Bool) → MS) → MS
  | [], acc, k => k acc
  | m :: ms, acc, k => bindS m fun d o => mOwnL ms ((d, o) :: acc) k
def setO : List Nat → List (D × Bool) → EV → Option EV
  | [], [], env => some env
  | i :: is, (d, o) :: l, env => match freeE env i with
    | true => setO is l (env.set i (some (d, tg o)))
    | false => none
  | _, _, _ => none
/-- names = values, evaluated from the left, all stored then -/
def mParL (is : List Nat) (ms : List ME) : MS := mOwnL ms [] fun l env => match decide is.Nodup with
  | true => (match setO is.reverse l env with
    | some e => .nx e
    | none => .bad)
  | false => .bad
def setV : List Nat → List V → L2.St → L2.St
  | i :: is, v :: vs, σ => setV is vs (σ.set i (some v))
  | _, _, σ => σ
section
variable {X : Cx} {G : Ctx} {W : WX} {g : Gh} {σ : L2.St} {H H1 H' : Hp} {env : EV} {S S1 S' : Sset} {P : List (Addr × D)} {Z : Ends}
theorem Held.mono (gr : Grow S H S' H') : ∀ {vs : List V} {l : List (D × Bool)} {P : List (Addr × D)}, Held G H S vs l P → Held G H' S' vs l P
  | _, _, _, .nil => .nil
  | _, _, _, .sh r h => .sh (r.mono gr) (h.mono gr)
  | _, _, _, .ow h => .ow (h.mono gr)
theorem Held.len : ∀ {vs : List V} {l : List (D × Bool)} {P : List (Addr × D)}, Held G H S vs l P → vs.length = l.length
  | _, _, _, .nil => rfl
  | _, _, _, .sh _ h => by rw [List.length_cons, List.length_cons, h.len]
  | _, _, _, .ow h => by rw [List.length_cons, List.length_cons, h.len]
/-- the readings of several expressions -/
def tOs (G : Ctx) (W : WX) : List ME → TA
  | [] => tNil
  | m :: ms => tCons (trE G W m) (tOs G W ms)
abbrev DAo (X : Cx) (G : Ctx) (W : WX) (es : List Expr) (ms : List ME) := PA X es (tOs G W ms)
theorem dao_nil : DAo X G W [] [] := pa_nil
theorem dao_cons {e : Expr} {m : ME} {es : List Expr} {ms : List ME} (he : DE X G W e m) (hr : DAo X G W es ms) (hs : starEach (e :: es) X.env = (false, eval e X.env) :: starEach es X.env := by rfl) : DAo X G W (e :: es) (m :: ms) := pa_cons he hr hs
theorem ownL_ok {k : List (D × Bool) → MS} {R : List V → Hp → Prop} : ∀ {ms : List ME} {acc : List (D × Bool)} {vs : List V} {env : EV} {H : Hp} {S : Sset} {P : List (Addr × D)}, SI G g σ H env S P → Held G H S vs acc P → PostS G W g H S Z (mOwnL ms acc k env) →
    (∀ (vs' : List V) (l' : List (D × Bool)) (P' : List (Addr × D)) (env' : EV) (H' : Hp) (S' : Sset), SI G g σ H' env' S' P' → Held G H' S' vs' l' P' → vs'.length = vs.length + ms.length → PostS G W g H' S' Z (k l' env') → R vs'.reverse H') → tOs G W ms σ H fun ws H' => R (vs.reverse ++ ws) H'
  | [], acc, vs, env, H, S, P, I, hh, h, hk => by
    show R (vs.reverse ++ []) H
    rw [List.append_nil]
    exact hk vs acc P env H S I hh rfl h
  | m :: ms, acc, vs, env, H, S, P, I, hh, h, hk => by
    show trE G W m σ H fun v H1 => tOs G W ms σ H1 fun ws H2 => R (vs.reverse ++ (v :: ws)) H2
    refine ⟨g, env, S, P, I, PostE.ofS h (fun d o env1 v H1 S1 _ gr hv h1 => ?_) fun _ _ _ I' => I'.nilP⟩
    have e : ∀ ws : List V, vs.reverse ++ (v :: ws) = (v :: vs).reverse ++ ws := fun ws => by rw [List.reverse_cons, List.append_assoc]; rfl
    simp only [e]
    cases o with
    | false => exact ownL_ok hv.1 (.sh hv.2 (hh.mono gr)) h1 fun vs' l' P' env' H' S' a b c d => hk vs' l' P' env' H' S' a b (by rw [c, List.length_cons, List.length_cons]; omega) d
    | true =>
      obtain ⟨a, rfl, I1⟩ := hv
      exact ownL_ok I1 (.ow (hh.mono gr)) h1 fun vs' l' P' env' H' S' a b c d => hk vs' l' P' env' H' S' a b (by rw [c, List.length_cons, List.length_cons]; omega) d
theorem setO_ok {vs : List V} {l : List (D × Bool)} {P : List (Addr × D)} (hh : Held G H S vs l P) : ∀ {is : List Nat} {env e : EV} {σ : L2.St}, SI G g σ H env S P → setO is l env = some e → SI G g (setV is vs σ) H e S [] ∧ is.length = vs.length := by
  induction hh with
  | nil =>
    intro is env e σ I h
    cases is with
    | nil => cases h; exact ⟨I, rfl⟩
    | cons i is => cases h
  | @sh v d vs l P r hh ih =>
    intro is env e σ I h
    cases is with
    | nil => cases h
    | cons i is =>
      simp only [setO] at h
      cases q : freeE env i with
      | false => rw [q] at h; cases h
      | true =>
        rw [q] at h
        obtain ⟨r0, k1, k2⟩ := freeE_ok q
        obtain ⟨z1, z2⟩ := ih (I.setS k1 k2 r) h
        exact ⟨z1, by rw [List.length_cons, List.length_cons, z2]⟩
  | @ow a d vs l P hh ih =>
    intro is env e σ I h
    cases is with
    | nil => cases h
    | cons i is =>
      simp only [setO] at h
      cases q : freeE env i with
      | false => rw [q] at h; cases h
      | true =>
        rw [q] at h
        obtain ⟨r0, k1, k2⟩ := freeE_ok q
        obtain ⟨z1, z2⟩ := ih (I.setO k1 k2) h
        exact ⟨z1, by rw [List.length_cons, List.length_cons, z2]⟩
/-- what is wished for behind a parallel store, at the values -/
theorem parL_ok {is : List Nat} {ms : List ME} (h : ∃ g env S, SI G g σ H env S [] ∧ PostS G W g H S Z (mParL is ms env)) :
    tOs G W ms σ H fun vs H1 => vs.length = ms.length ∧ is.length = vs.length ∧ is.Nodup ∧ (∃ g env S P, SI G g σ H1 env S P ∧ ∀ (H2 : Hp), Ext H1 H2 → Z.nx (setV is.reverse vs.reverse σ) H2) := by
  obtain ⟨g, env, S, I, h⟩ := h
  unfold mParL at h
  have := ownL_ok (R := fun vs H1 => vs.length = ms.length ∧ is.length = vs.length ∧ is.Nodup ∧ (∃ g env S P, SI G g σ H1 env S P ∧ ∀ (H2 : Hp), Ext H1 H2 → Z.nx (setV is.reverse vs.reverse σ) H2)) I .nil h fun vs' l' P' env' H' S' I' hh hl h' => ?_
  · simpa using this
  · cases q : decide is.Nodup with
    | false => simp only [q] at h'; exact h'.elim
    | true =>
      simp only [q] at h'
      cases q2 : setO is.reverse l' env' with
      | none => simp only [q2] at h'; exact h'.elim
      | some e =>
        simp only [q2] at h'
        obtain ⟨z1, z2⟩ := setO_ok hh I' q2
        rw [List.length_reverse] at z2
        refine ⟨by rw [List.length_reverse, hl, List.length_nil, Nat.zero_add], by rw [List.length_reverse, z2], of_decide_eq_true q, g, env', S', P', I', fun H2 hx => ?_⟩
        have I2 := I'.ext (N := Nul) hx (fun _ h => h.elim)
        rw [or1_nul] at I2
        have gr : Grow S' H' S' H2 := I'.grow hx S' fun _ h => h
        obtain ⟨y1, _⟩ := setO_ok (hh.mono gr) I2 q2
        rw [List.reverse_reverse]
        exact h' _ H2 S' gr y1
theorem trE_imp {m : ME} {Q Q' : VK} (hq : ∀ v H, Q v H → Q' v H) (h : trE G W m σ H Q) : trE G W m σ H Q' := by
  obtain ⟨g, env, S, P, I, h⟩ := h
  refine ⟨g, env, S, P, I, ?_⟩
  cases q : m env with
  | ok d o e => rw [q] at h; exact fun v H1 S1 gr hv => hq v H1 (h v H1 S1 gr hv)
  | exc c fs e => rw [q] at h; exact h
  | bad => rw [q] at h; exact h
theorem tOs_imp : ∀ {ms : List ME} {H : Hp} {R R' : List V → Hp → Prop}, (∀ vs H, R vs H → R' vs H) → tOs G W ms σ H R → tOs G W ms σ H R'
  | [], H, R, R', hr, h => hr _ _ h
  | m :: ms, H, R, R', hr, h => trE_imp (fun v H1 h1 => tOs_imp (fun vs H2 h2 => hr _ _ h2) h1) h
theorem setV2 {i j : Nat} {u v : V} (h : i ≠ j) : setV [j, i] [v, u] σ = (σ.set i (some u)).set j (some v) := List.set_comm _ _ (Ne.symm h)
theorem setV3 {i j l : Nat} {u v w : V} (h1 : i ≠ j) (h2 : i ≠ l) (h3 : j ≠ l) : setV [l, j, i] [w, v, u] σ = ((σ.set i (some u)).set j (some v)).set l (some w) := by
  show ((σ.set l (some w)).set j (some v)).set i (some u) = _
  rw [List.set_comm _ _ (Ne.symm h3), List.set_comm _ _ (Ne.symm h2), List.set_comm _ _ (Ne.symm h1)]
theorem ds_par3 {i j l : Nat} {x y z : Str} {a b c : Expr} {ms : List ME} {px py pz pt : Pos} {kt k2 pt2} {pos : Pos} (hc : X.calm = true) (hN : X.N.Nodup) (hi : X.N[i]? = some x) (hj : X.N[j]? = some y) (hl : X.N[l]? = some z) (hij : i ≠ j) (hil : i ≠ l) (hjl : j ≠ l)
    (hx : X.env.scope.names.lookup x = some .local) (hy : X.env.scope.names.lookup y = some .local) (hz : X.env.scope.names.lookup z = some .local) (ha : DAo X G W [a, b, c] ms)
    (hw : swappedStores [.Tuple [.Name x px, .Name y py, .Name z pz] kt pt] (.Tuple [a, b, c] k2 pt2) X.env = pure (some [x, y, z]) := by rfl)
    (hs : swapsWithSole [.Tuple [.Name x px, .Name y py, .Name z pz] kt pt] (.Tuple [a, b, c] k2 pt2) pos.line X.env = pure false := by rfl) (hm : ms.length = 3 := by rfl) :
    DS X G W (.Assign [.Tuple [.Name x px, .Name y py, .Name z pz] kt pt] (.Tuple [a, b, c] k2 pt2) pos) (mParL [i, j, l] ms) :=
  psImp (ps_par3 hc hN hi hj hl hij hil hjl hx hy hz ha hw hs) fun Z σ H ⟨g, env, S, I, h⟩ => by
    refine tOs_imp (fun vs H1 ⟨h1, h2, h3, _, _, _, _, _, h4⟩ => ?_) (parL_ok ⟨g, env, S, I, h⟩)
    rw [hm] at h1
    match vs, h1 with
    | [u, v, w], _ =>
      refine ⟨u, v, w, rfl, ?_⟩
      have := h4 H1 Ext.rfl'
      rw [← setV3 hij hil hjl]
      exact this
/-- .. where a name is shared with a block: the tuple is made -/
theorem ds_parC3 {i j l : Nat} {x y z : Str} {a b c : Expr} {ms : List ME} {px py pz pt : Pos} {kt k2 pt2} {pos : Pos} (hK : G.K = X.K) (hc : X.calm = true) (hi : PG X (.Name x px) (gName i)) (hj : PG X (.Name y py) (gName j)) (hl : PG X (.Name z pz) (gName l)) (hij : i ≠ j) (hil : i ≠ l) (hjl : j ≠ l) (ha : DAo X G W [a, b, c] ms)
    (hw : swappedStores [.Tuple [.Name x px, .Name y py, .Name z pz] kt pt] (.Tuple [a, b, c] k2 pt2) X.env = pure none := by rfl)
    (hs : swapsWithSole [.Tuple [.Name x px, .Name y py, .Name z pz] kt pt] (.Tuple [a, b, c] k2 pt2) pos.line X.env = pure false := by rfl) (hm : ms.length = 3 := by rfl)
    (h1 : (assignEach [.Tuple [.Name x px, .Name y py, .Name z pz] kt pt] X.env).map (·.2) = [assign (.Tuple [.Name x px, .Name y py, .Name z pz] kt pt) X.env] := by rfl)
    (hn : (assignEach [.Name x px, .Name y py, .Name z pz] X.env).length = 3 := by rfl) (hst : (assignEach [.Name x px, .Name y py, .Name z pz] X.env).findIdx? (·.1) = none := by rfl)
    (q1 : (assignEach [.Name x px, .Name y py, .Name z pz] X.env).map (·.2) = assign (.Name x px) X.env :: (assignEach [.Name y py, .Name z pz] X.env).map (·.2) := by rfl) (q2 : (assignEach [.Name y py, .Name z pz] X.env).map (·.2) = assign (.Name y py) X.env :: (assignEach [.Name z pz] X.env).map (·.2) := by rfl)
    (q3 : (assignEach [.Name z pz] X.env).map (·.2) = assign (.Name z pz) X.env :: (assignEach [] X.env).map (·.2) := by rfl) :
    DS X G W (.Assign [.Tuple [.Name x px, .Name y py, .Name z pz] kt pt] (.Tuple [a, b, c] k2 pt2) pos) (mParL [i, j, l] ms) :=
  psImp (ps_asg (pe_tup ha) (pg_tup hc (pgs_cons hi (pgs_cons hj (pgs_cons hl pgs_nil q3) q2) q1) hn hst) hs hw h1) fun Z σ H ⟨g, env, S, I, h⟩ => by
    refine tOs_imp (fun vs H1 ⟨h1, h2, h3, g', env', S', P', I', h4⟩ => ?_) (parL_ok ⟨g, env, S, I, h⟩)
    rw [hm] at h1
    match vs, h1 with
    | [u, v, w], _ =>
      refine ⟨by show 3 ≤ sizeLine; decide, fun p hp => ⟨p, [u, v, w], rfl, .inl (.inl upd_same), rfl, u, [v, w], rfl, v, [w], rfl, w, [], rfl, rfl, ?_⟩⟩
      have := h4 (L2.upd H1 p (.tup [u, v, w])) (Ext.upd hp)
      rw [← setV3 hij hil hjl]
      exact this
/-- two names, one shared with a block -/
theorem ds_parC2 {i j : Nat} {x y : Str} {a b : Expr} {ms : List ME} {px py pt : Pos} {kt k2 pt2} {pos : Pos} (hK : G.K = X.K) (hc : X.calm = true) (hi : PG X (.Name x px) (gName i)) (hj : PG X (.Name y py) (gName j)) (hij : i ≠ j) (ha : DAo X G W [a, b] ms)
    (hw : swappedStores [.Tuple [.Name x px, .Name y py] kt pt] (.Tuple [a, b] k2 pt2) X.env = pure none := by rfl)
    (hs : swapsWithSole [.Tuple [.Name x px, .Name y py] kt pt] (.Tuple [a, b] k2 pt2) pos.line X.env = pure false := by rfl) (hm : ms.length = 2 := by rfl)
    (h1 : (assignEach [.Tuple [.Name x px, .Name y py] kt pt] X.env).map (·.2) = [assign (.Tuple [.Name x px, .Name y py] kt pt) X.env] := by rfl)
    (hn : (assignEach [.Name x px, .Name y py] X.env).length = 2 := by rfl) (hst : (assignEach [.Name x px, .Name y py] X.env).findIdx? (·.1) = none := by rfl)
    (q1 : (assignEach [.Name x px, .Name y py] X.env).map (·.2) = assign (.Name x px) X.env :: (assignEach [.Name y py] X.env).map (·.2) := by rfl)
    (q3 : (assignEach [.Name y py] X.env).map (·.2) = assign (.Name y py) X.env :: (assignEach [] X.env).map (·.2) := by rfl) :
    DS X G W (.Assign [.Tuple [.Name x px, .Name y py] kt pt] (.Tuple [a, b] k2 pt2) pos) (mParL [i, j] ms) :=
  psImp (ps_asg (pe_tup ha) (pg_tup hc (pgs_cons hi (pgs_cons hj pgs_nil q3) q1) hn hst) hs hw h1) fun Z σ H ⟨g, env, S, I, h⟩ => by
    refine tOs_imp (fun vs H1 ⟨h1, h2, h3, g', env', S', P', I', h4⟩ => ?_) (parL_ok ⟨g, env, S, I, h⟩)
    rw [hm] at h1
    match vs, h1 with
    | [u, v], _ =>
      refine ⟨by show 2 ≤ sizeLine; decide, fun p hp => ⟨p, [u, v], rfl, .inl (.inl upd_same), rfl, u, [v], rfl, v, [], rfl, rfl, ?_⟩⟩
      have := h4 (L2.upd H1 p (.tup [u, v])) (Ext.upd hp)
      rw [← setV2 hij]
      exact this
end
end DL

set_option Elab.async false
set_option linter.all false
set_option maxRecDepth 100000
set_option maxHeartbeats 1000000
/-! DL38: short rules for printed texts: a statement that is never reached, a def that makes lambdas, a def that calls itself. -/
namespace DL
open PySem PySem.Spec L2
section
variable {X : Cx} {G : Ctx} {W : WX}
theorem ds_bad {st : Stmt} : DS X G W st (fun _ => .bad) := ⟨fun _ _ _ _ _ _ ⟨_, _, _, _, h⟩ => h.elim⟩
theorem un65 {k : Nat} (r : Room k X.A) : X.A.units + 65 < cLine := by have := r.un; omega
theorem gname {i : Nat} {x : Str} {pos : Pos} (hN : X.N.Nodup) (hi : X.N[i]? = some x) (hx : Loc X.env.scope x) (hf : X.fn x = true ∨ X.env.scope.names.lookup x = some .local := by first | exact .inl rfl | exact .inr rfl | assumption) : PG X (.Name x pos) (gName i) := pg_name hN hi hx hf
end
/-- a def whose code object is known -/
theorem fn_okL {P : Program} {w : World} {K : PySem.W.Frag} {mg : Str → Option Value} {base : Heap} {G : Ctx} {x : Str} {st : Stmt} {f c Pt : Addr} {N ps : List Str} {k : Nat} {io : Bool} {mb : MS} (L : LawD K x st f c Pt) (Sc : FnScope N ps (defScope st)) (h0 : N ≠ []) (hio : io = true → ps ≠ [])
    (hbd : ∀ (kV doc pm : Value) (an : Option Addr) (cdv ct : Value) (us : List Value), us.length = ps.length → bindArgs (PySem.W.fnOf x x (defArgs st) (defBody st) (defScope st) .none kV doc pm an cdv ct) ⟨us, []⟩ = pure (ps.zip us))
    (hb : ∀ (A : Around) (outer : List Env) (s : Shared) (H : Hp) (E : XK), Room k (A.deeper (PyProof.Rows.envOfC x (defScope st) s.heap.objs.size f (.ref c))) →
      Takes (cxOf (L2.CX P w) P w K mg base N x (defScope st) f (.ref c) A outer s H E) (WD E) → DSs (cxOf (L2.CX P w) P w K mg base N x (defScope st) f (.ref c) A outer s H E) G (WD E) (defBody st) mb) :
    ∃ fd, FnOk P w K mg base (L2.CX P w) (k + 1) f fd ps (SpF G io ps.length (mkFn N.length io mb)) ∧ Binds K fd ps [] := by
  obtain ⟨oc, od, kV, doc, pm, an, ct, osl, dd, vs, sl, file, tf, flags, tg, inF, text, tt, lk, hcd, _⟩ := L.ex
  refine ⟨_, fn_of lk hcd Sc (fun vs H Q E h => h.1) fun A outer s H vs Q E hr h => ⟨_, hb A outer s H E hr (takes_of rfl rfl rfl rfl), ?_⟩, .all (hbd kV doc pm an (.ref c) ct)⟩
  have hpl : ps.length ≤ N.length := by rw [← Sc.pre]; exact List.length_take_le' _ _
  exact sp_start (W := WD E) h hpl
/-- the def as its callers know it; it may know itself so -/
theorem calOfR {P : Program} {w : World} {K : PySem.W.Frag} {mg : Str → Option Value} {base h : Heap} {G : Ctx} {x : Str} {st : Stmt} {io : Bool} {n k : Nat} {c : FN} {ps : List Str} (X : K.In h) (N : h.Ns mainGlobals mg) (D : DefK K x st)
    (hb : ∀ f fd, Fun K x x st f fd → Binds K fd ps []) (ok : ∀ f fd, Fun K x x st f fd → mg x = some (.ref f) → Binds K fd ps [] → FnOk P w K mg base (L2.CX P w) k f fd ps (SpF G io n c)) : Cal P w K mg base G x io n k c [] := by
  obtain ⟨f, fd, a, F⟩ := D.ex
  have hm := PySem.W.mg_of X N a
  exact ⟨f, fd, ps, [], [], ok f fd F hm (hb f fd F), hm, F.kp, hb f fd F, .nil, rfl, fun _ _ => .nil⟩
end DL
namespace DL
open PySem PySem.Spec L2
/-- how a def without defaults binds keywords -/
theorem fun_kbn {K : PySem.W.Frag} {x qual : Str} {st : Stmt} {f : Addr} {fd : FuncData} {ps : List Str} (F : Fun K x qual st f fd) (n : Nat) (ks : List Str) (g : {α : Type} → List α → List α → List α)
    (hrel : ∀ {vs : List V} {us : List Value} {zs : List V} {ws : List Value}, Vals vs us → Vals zs ws → Vals (g vs zs) (g us ws))
    (h : ∀ (kV doc pm : Value) (an : Option Addr) (cdv ct : Value) (us ws : List Value), us.length = n → ws.length = ks.length → bindArgs (PySem.W.fnOf x qual (defArgs st) (defBody st) (defScope st) .none kV doc pm an cdv ct) ⟨us, ks.zip ws⟩ = pure (ps.zip (g us ws))) : KBn K fd ps n ks g g := by
  obtain ⟨oc, od, kV, doc, pm, an, cdv, ct, osl, rfl, lk, hcd⟩ := F.ex
  exact ⟨fun s us ws X l1 l2 => .of_eq (h kV doc pm an cdv ct us ws l1 l2), hrel⟩
/-- two keywords, the other way round -/
def gSwap {α : Type} (us ws : List α) : List α := match ws with
  | [a, b] => us ++ [b, a]
  | ws => us ++ ws
theorem gSwap_rel {vs zs : List V} {us ws : List Value} (r1 : Vals vs us) (r2 : Vals zs ws) : Vals (gSwap vs zs) (gSwap us ws) := by
  cases r2 with
  | nil => exact r1.append .nil
  | cons a1 r2 => cases r2 with
    | nil => exact r1.append (.cons a1 .nil)
    | cons a2 r2 => cases r2 with
      | nil => exact r1.append (.cons a2 (.cons a1 .nil))
      | cons a3 r2 => exact r1.append (.cons a1 (.cons a2 (.cons a3 r2)))
theorem gSwap_rep {G : Ctx} {H : Hp} {S : Sset} {zs : List V} {ds : List D} {pd : List D → List D} (hpd : ∀ a b, pd [a, b] = [b, a]) (hl : zs.length = 2) (r : RepL G H S zs ds) : (gSwap [] zs).length = 2 ∧ RepL G H S (gSwap [] zs) (pd ds) := by
  cases r with
  | nil => cases hl
  | cons a1 r => cases r with
    | nil => cases hl
    | cons a2 r => cases r with
      | nil => exact ⟨rfl, by rw [hpd]; exact .cons a2 (.cons a1 .nil)⟩
      | cons a3 r => simp at hl
end DL

set_option Elab.async false
set_option linter.all false
set_option maxRecDepth 100000
set_option maxHeartbeats 1000000
/-! DL39: more equations for readings. -/
namespace DL
open PySem L2
section
variable {env e e1 e2 : EV} {i j : Nat} {m m1 m2 : ME} {x y d : D} {o o1 o2 : Bool} {t : Tag}
theorem ev_sub {mk mv : ME} {x0 x' : D} {t0 : Tag} (hv : mv env = .ok d o e1) (h0 : e1[i]? = some (some (x0, t0))) (hk : mk e1 = .ok y o2 e2) (h1 : e2[i]? = some (some (x, t))) (ht : t ≠ .s) (hs : setP y d x = some x') : mSub i mk mv env = .nx (e2.set i (some (x', t))) := by
  unfold mSub bindS
  simp only [hv, h0, hk]
  unfold updE
  simp only [h1, hs]
  try (cases t <;> first | rfl | exact absurd rfl ht)
theorem ev_par {d1 d2 : D} (h1 : m1 env = .ok d1 o1 e1) (h2 : m2 e1 = .ok d2 o2 e2) (hi : freeE e2 i = true) (hj : freeE e2 j = true) (hij : i ≠ j) : mPar i j m1 m2 env = .nx ((e2.set i (some (d1, tg o1))).set j (some (d2, tg o2))) := by
  unfold mPar bindS
  simp only [h1, h2, hi, hj, decide_eq_true hij, Bool.and_self]
theorem ev_andV {k : Bool} (h1 : m1 env = .ok (.bl k) o1 e1) (h2 : k = true → m2 e1 = .ok d o2 e2) (hk : k = false → d = .bl false ∧ o2 = false ∧ e2 = e1) : mAndV m1 m2 env = .ok d o2 e2 := by
  unfold mAndV blE bindE
  simp only [h1]
  cases k with
  | true => exact h2 rfl
  | false => obtain ⟨rfl, rfl, rfl⟩ := hk rfl; rfl
theorem ev_orV {k : Bool} (h1 : m1 env = .ok (.bl k) o1 e1) (h2 : k = false → m2 e1 = .ok d o2 e2) (hk : k = true → d = .bl true ∧ o2 = false ∧ e2 = e1) : mOrV m1 m2 env = .ok d o2 e2 := by
  unfold mOrV blE bindE
  simp only [h1]
  cases k with
  | false => exact h2 rfl
  | true => obtain ⟨rfl, rfl, rfl⟩ := hk rfl; rfl
/-- [me for i in ds] -/
theorem lc_step {tt : MT} {me : ME} {r acc : List D} (hf : freeE (env.set i none) i = true) : lcE (.nm i) [i] tt me (d :: r) acc env = (match tt (env.set i (some (d, .s))) with
    | .ok true e1 => (match me e1 with
      | .ok d' _ e2 => lcE (.nm i) [i] tt me r (acc ++ [d']) e2
      | _ => .bad)
    | .ok false e1 => lcE (.nm i) [i] tt me r acc e1
    | _ => .bad) := by
  have h : setTg (.nm i) d (wipeE env [i]) = some (env.set i (some (d, .s))) := by
    unfold setTg wipeE wipeE
    simp only [hf, List.set_set]
  rw [lcE, h]
  try rfl
theorem lc_done {tt : MT} {me : ME} {acc : List D} : lcE (.nm i) [i] tt me [] acc env = .ok (.lst acc) true (env.set i none) := rfl
theorem ev_lc {tt : MT} {me : ME} {mi : MI} {ds : List D} {acc : List D} (hi : mi env = .ok ds e1) (h : lcE (.nm i) [i] tt me ds [] e1 = .ok (.lst acc) true e2) (h0 : i ≠ 0) : mLc (.nm i) [i] mi tt me env = .ok (.lst acc) true e2 := by
  unfold mLc
  rw [show decide (0 ∉ [i]) = true from decide_eq_true (by simpa using Ne.symm h0), hi]
  exact h
/-- a comprehension that changes nothing but its own name, each item by itself -/
theorem lc_map {me : ME} {f : D → D} (h0 : i < env.length) : ∀ (ds acc : List D) (z : Sl), (∀ d ∈ ds, ∃ o, me (env.set i (some (d, .s))) = .ok (f d) o (env.set i (some (d, .s)))) → lcE (.nm i) [i] mYes me ds acc (env.set i z) = .ok (.lst (acc ++ ds.map f)) true (env.set i none)
  | [], acc, z, _ => by rw [List.map_nil, List.append_nil, lc_done, List.set_set]
  | d :: r, acc, z, h => by
    have hf : freeE ((env.set i z).set i none) i = true := by
      unfold freeE
      rw [List.set_set, List.getElem?_set_self h0]
    rw [lc_step hf, List.set_set]
    obtain ⟨o, hm⟩ := h d List.mem_cons_self
    show (match me (env.set i (some (d, .s))) with
      | .ok d' _ e2 => lcE (.nm i) [i] mYes me r (acc ++ [d']) e2
      | _ => .bad) = _
    rw [hm]
    show lcE (.nm i) [i] mYes me r (acc ++ [f d]) (env.set i (some (d, .s))) = _
    rw [lc_map h0 r (acc ++ [f d]) (some (d, .s)) fun x hx => h x (List.mem_cons_of_mem _ hx)]
    simp
/-- .. with a test -/
theorem lc_filter {tt : MT} {me : ME} {f : D → D} {p : D → Bool} (h0 : i < env.length) : ∀ (ds acc : List D) (z : Sl), (∀ d ∈ ds, tt (env.set i (some (d, .s))) = .ok (p d) (env.set i (some (d, .s)))) → (∀ d ∈ ds, p d = true → ∃ o, me (env.set i (some (d, .s))) = .ok (f d) o (env.set i (some (d, .s)))) → lcE (.nm i) [i] tt me ds acc (env.set i z) = .ok (.lst (acc ++ (ds.filter p).map f)) true (env.set i none)
  | [], acc, z, _, _ => by rw [List.filter_nil, List.map_nil, List.append_nil, lc_done, List.set_set]
  | d :: r, acc, z, ht, h => by
    have hf : freeE ((env.set i z).set i none) i = true := by
      unfold freeE
      rw [List.set_set, List.getElem?_set_self h0]
    rw [lc_step hf, List.set_set, ht d List.mem_cons_self]
    have ih := fun acc => lc_filter h0 r acc (some (d, .s)) (fun x hx => ht x (List.mem_cons_of_mem _ hx)) fun x hx => h x (List.mem_cons_of_mem _ hx)
    cases q : p d with
    | true =>
      obtain ⟨o, hm⟩ := h d List.mem_cons_self q
      simp only [hm]
      rw [ih, List.filter_cons_of_pos (by rw [q]), List.map_cons]
      simp
    | false =>
      simp only []
      rw [ih, List.filter_cons_of_neg (by rw [q]; simp)]
end
end DL

set_option Elab.async false
set_option linter.all false
set_option maxRecDepth 100000
set_option maxHeartbeats 1000000
/-! DL40: a reading called, evaluated; comprehensions whose item draws. -/
namespace DL
open PySem L2
section
variable {n : Nat} {io : Bool} {b : MS} {ds fs : List D} {e : EV} {d : D} {o : Bool} {c : Nat} {f : Option D}
theorem mk_rt (h : b (startE n io ds) = .rt d o e) (hf : finE io e = f := by rfl) : mkFn n io b ds = .ok d o f := by
  unfold mkFn; rw [h]; subst hf; rfl
theorem mk_nx (h : b (startE n io ds) = .nx e) (hf : finE io e = f := by rfl) : mkFn n io b ds = .ok .non false f := by
  unfold mkFn; rw [h]; subst hf; rfl
theorem mk_exc (h : b (startE n io ds) = .exc c fs e) (hf : finE io e = f := by rfl) : mkFn n io b ds = .exc c fs f := by
  unfold mkFn; rw [h]; subst hf; rfl
end
section
variable {env e e1 e2 : EV} {i j : Nat} {m m1 m2 : ME} {x y d : D} {o o1 o2 : Bool} {t : Tag}
theorem ev_rg {k : Int} (h : m env = .ok (.int k) o e) (h1 : -(2 ^ 62) ≤ k) (h2 : k ≤ 16777216) : mRg1 m env = .ok (rngD 0 k) e := by
  unfold mRg1 bindI
  rw [h]
  simp only [decide_eq_true h1, decide_eq_true h2]
  rfl
theorem ev_for {tgt : Tgt} {mi : MI} {b : MS} {ds : List D} (h : mi env = .ok ds e) : mFor tgt mi b env = forE tgt b ds e := by
  unfold mFor
  rw [h]
theorem rngD_len {k : Int} : (rngD 0 k).length = k.toNat := by simp [rngD]
theorem rngD_mem {k : Int} : ∀ d ∈ rngD 0 k, ∃ i : Nat, d = .int i ∧ i < k.toNat := fun d hd => by
  simp only [rngD, List.mem_map, List.mem_range] at hd
  obtain ⟨j, h, rfl⟩ := hd
  exact ⟨j, by simp, by omega⟩
theorem rngD_nat (k : Nat) : rngD 0 k = (List.range k).map fun (j : Nat) => D.int j := by
  unfold rngD
  simp
theorem ev_parL3 {m3 : ME} {d1 d2 d3 : D} {o3 : Bool} {e3 e4 : EV} {k : Nat} (h1 : m1 env = .ok d1 o1 e1) (h2 : m2 e1 = .ok d2 o2 e2) (h3 : m3 e2 = .ok d3 o3 e3) (hs : setO [k, j, i] [(d3, o3), (d2, o2), (d1, o1)] e3 = some e4) (hn : decide [i, j, k].Nodup = true := by decide) : mParL [i, j, k] [m1, m2, m3] env = .nx e4 := by
  unfold mParL mOwnL bindS
  simp only [h1]
  unfold mOwnL bindS
  simp only [h2]
  unfold mOwnL bindS
  simp only [h3]
  unfold mOwnL
  rw [hn]
  show (match setO [k, j, i] [(d3, o3), (d2, o2), (d1, o1)] e3 with
    | some e => RS.nx e
    | none => .bad) = _
  rw [hs]
theorem ev_get {z v : D} {t' : Tag} {kvs : List (Key × D)} {c : ME} (h1 : env[i]? = some (some (.dct kvs, t))) (h2 : env[j]? = some (some (y, t'))) (h3 : c env = .ok z o env) (hp : getP (.dct kvs) y z = some (v, false)) : mGet (.pl i) (.pl j) c env = .ok v false env := by
  unfold mGet bindO
  simp only [h1]
  show (match isDct (dat (.pl i) env) with
    | true => (match env[j]? with
      | some (some _) => bindE c (fun z env => match dat (.pl i) env, dat (.pl j) env with
        | some x, some y => liftP (getP x y z) env
        | _, _ => RE.bad) env
      | _ => RE.bad)
    | false => RE.bad) = _
  have d1 : dat (.pl i) env = some (.dct kvs) := by simp only [dat, h1]
  have d2 : dat (.pl j) env = some y := by simp only [dat, h2]
  rw [d1, h2]
  show bindE c _ env = _
  unfold bindE
  rw [h3]
  show (match dat (.pl i) env, dat (.pl j) env with
        | some x, some y => liftP (getP x y z) env
        | _, _ => RE.bad) = _
  rw [d1, d2]
  show liftP (getP (.dct kvs) y z) env = _
  rw [hp]
  rfl
end
end DL

set_option Elab.async false
set_option linter.all false
set_option maxRecDepth 100000
set_option maxHeartbeats 1000000
/-! DL41: comprehensions over a mapped list; dicts put and looked up. -/
namespace DL
open PySem L2
section
variable {α : Type} {env e1 : EV} {i : Nat} {g f : α → D}
theorem lc_mapA {me : ME} (h0 : i < env.length) : ∀ (as : List α) (acc : List D) (z : Sl), (∀ a ∈ as, ∃ o, me (env.set i (some (g a, .s))) = .ok (f a) o (env.set i (some (g a, .s)))) → lcE (.nm i) [i] mYes me (as.map g) acc (env.set i z) = .ok (.lst (acc ++ as.map f)) true (env.set i none)
  | [], acc, z, _ => by rw [List.map_nil, List.map_nil, List.append_nil, lc_done, List.set_set]
  | a :: r, acc, z, h => by
    have hf : freeE ((env.set i z).set i none) i = true := by
      unfold freeE
      rw [List.set_set, List.getElem?_set_self h0]
    rw [List.map_cons, lc_step hf, List.set_set]
    obtain ⟨o, hm⟩ := h a List.mem_cons_self
    show (match me (env.set i (some (g a, .s))) with
      | .ok d' _ e2 => lcE (.nm i) [i] mYes me (r.map g) (acc ++ [d']) e2
      | _ => .bad) = _
    rw [hm]
    show lcE (.nm i) [i] mYes me (r.map g) (acc ++ [f a]) (env.set i (some (g a, .s))) = _
    rw [lc_mapA h0 r (acc ++ [f a]) (some (g a, .s)) fun x hx => h x (List.mem_cons_of_mem _ hx)]
    simp
theorem ev_lcA {mi : MI} {me : ME} {as : List α} (hi : mi env = .ok (as.map g) e1) (h : ∀ a ∈ as, ∃ o, me (e1.set i (some (g a, .s))) = .ok (f a) o (e1.set i (some (g a, .s)))) (hl : i < e1.length) (h0 : i ≠ 0) : mLc (.nm i) [i] mi mYes me env = .ok (.lst (as.map f)) true (e1.set i none) := by
  refine ev_lc hi ?_ h0
  have := lc_mapA hl as [] e1[i] h
  rw [List.set_getElem_self, List.nil_append] at this
  exact this
theorem lc_filterA {tt : MT} {me : ME} {p : α → Bool} (h0 : i < env.length) : ∀ (as : List α) (acc : List D) (z : Sl), (∀ a ∈ as, tt (env.set i (some (g a, .s))) = .ok (p a) (env.set i (some (g a, .s)))) → (∀ a ∈ as, p a = true → ∃ o, me (env.set i (some (g a, .s))) = .ok (f a) o (env.set i (some (g a, .s)))) → lcE (.nm i) [i] tt me (as.map g) acc (env.set i z) = .ok (.lst (acc ++ (as.filter p).map f)) true (env.set i none)
  | [], acc, z, _, _ => by rw [List.filter_nil, List.map_nil, List.map_nil, List.append_nil, lc_done, List.set_set]
  | a :: r, acc, z, ht, h => by
    have hf : freeE ((env.set i z).set i none) i = true := by
      unfold freeE
      rw [List.set_set, List.getElem?_set_self h0]
    rw [List.map_cons, lc_step hf, List.set_set, ht a List.mem_cons_self]
    have ih := fun acc => lc_filterA h0 r acc (some (g a, .s)) (fun x hx => ht x (List.mem_cons_of_mem _ hx)) fun x hx => h x (List.mem_cons_of_mem _ hx)
    cases q : p a with
    | true =>
      obtain ⟨o, hm⟩ := h a List.mem_cons_self q
      simp only [hm]
      rw [ih, List.filter_cons_of_pos (by rw [q]), List.map_cons]
      simp
    | false =>
      simp only []
      rw [ih, List.filter_cons_of_neg (by rw [q]; simp)]
theorem ev_lcF {mi : MI} {tt : MT} {me : ME} {p : α → Bool} {as : List α} (hi : mi env = .ok (as.map g) e1) (ht : ∀ a ∈ as, tt (e1.set i (some (g a, .s))) = .ok (p a) (e1.set i (some (g a, .s)))) (h : ∀ a ∈ as, p a = true → ∃ o, me (e1.set i (some (g a, .s))) = .ok (f a) o (e1.set i (some (g a, .s)))) (hl : i < e1.length) (h0 : i ≠ 0) : mLc (.nm i) [i] mi tt me env = .ok (.lst ((as.filter p).map f)) true (e1.set i none) := by
  refine ev_lc hi ?_ h0
  have := lc_filterA hl as [] e1[i] ht h
  rw [List.set_getElem_self, List.nil_append] at this
  exact this
/-- any target; what the item's slots hold is wiped -/
theorem lc_mapG {t : Tgt} {vs : List Nat} {me : ME} {e0 : EV} : ∀ (as : List α) (acc : List D) (env : EV), wipeE env vs = e0 → (∀ a ∈ as, ∃ e1 o e2, setTg t (g a) e0 = some e1 ∧ me e1 = .ok (f a) o e2 ∧ wipeE e2 vs = e0) → lcE t vs mYes me (as.map g) acc env = .ok (.lst (acc ++ as.map f)) true e0
  | [], acc, env, hw, _ => by rw [List.map_nil, List.map_nil, List.append_nil]; show RE.ok (.lst acc) true (wipeE env vs) = _; rw [hw]
  | a :: r, acc, env, hw, h => by
    obtain ⟨e1, o, e2, h1, h2, h3⟩ := h a List.mem_cons_self
    rw [List.map_cons, List.map_cons]
    show (match setTg t (g a) (wipeE env vs) with
      | none => RE.bad
      | some e => match mYes e with
        | .ok true e1 => match me e1 with
          | .ok d' _ e2 => lcE t vs mYes me (r.map g) (acc ++ [d']) e2
          | _ => .bad
        | .ok false e1 => lcE t vs mYes me (r.map g) acc e1
        | _ => .bad) = _
    rw [hw, h1]
    show (match me e1 with
          | .ok d' _ e2 => lcE t vs mYes me (r.map g) (acc ++ [d']) e2
          | _ => RE.bad) = _
    rw [h2]
    show lcE t vs mYes me (r.map g) (acc ++ [f a]) e2 = _
    rw [lc_mapG r (acc ++ [f a]) e2 h3 fun x hx => h x (List.mem_cons_of_mem _ hx)]
    simp
theorem ev_lcG {t : Tgt} {vs : List Nat} {mi : MI} {me : ME} {e0 : EV} {as : List α} (hi : mi env = .ok (as.map g) e1) (hw : wipeE e1 vs = e0) (h : ∀ a ∈ as, ∃ e1 o e2, setTg t (g a) e0 = some e1 ∧ me e1 = .ok (f a) o e2 ∧ wipeE e2 vs = e0) (h0 : decide (0 ∉ vs) = true := by decide) : mLc t vs mi mYes me env = .ok (.lst (as.map f)) true e0 := by
  unfold mLc
  rw [h0, hi]
  show lcE t vs mYes me (as.map g) [] e1 = _
  rw [lc_mapG as [] e1 hw h, List.nil_append]
end
theorem all_yes {α : Type} (as : List α) : allP (.lst (as.map fun _ => D.bl true)) = some (.bl true, false) := by
  show (bls (as.map fun _ => D.bl true)).map (fun (bs : List Bool) => (D.bl (bs.all id), false)) = _
  have : bls (as.map fun _ => D.bl true) = some (as.map fun _ => true) := by
    induction as with
    | nil => rfl
    | cons a r ih => simp [bls, ih]
  rw [this]
  simp
section
variable {κ : Type} [DecidableEq κ]
theorem lookD_cons (k k' : κ) (v : D) (kvs : List (κ × D)) : lookD ((k, v) :: kvs) k' = if k = k' then some v else lookD kvs k' := by
  unfold lookD
  rw [List.find?_cons]
  by_cases e : k = k' <;> simp [e]
theorem lookD_put (kvs : List (κ × D)) (k k' : κ) (v : D) : lookD (putD kvs k v) k' = if k = k' then some v else lookD kvs k' := by
  induction kvs with
  | nil => exact lookD_cons k k' v []
  | cons p r ih =>
    obtain ⟨a, d⟩ := p
    unfold putD at ih ⊢
    rw [List.any_cons]
    by_cases e : a = k
    · subst e
      simp only [decide_true, Bool.true_or, if_true, List.map_cons, lookD_cons]
      by_cases e' : a = k'
      · simp [e']
      · simp only [e', if_false]
        have : ∀ l : List (κ × D), lookD (l.map fun kv => if kv.1 = a then (kv.1, v) else kv) k' = lookD l k' := fun l => by
          induction l with
          | nil => rfl
          | cons q s ih2 =>
            obtain ⟨b, x⟩ := q
            rw [List.map_cons]
            by_cases e2 : b = a
            · subst e2
              simp only [if_true, lookD_cons, e', if_false, ih2]
            · simp only [e2, if_false, lookD_cons, ih2]
        exact this r
    · simp only [e, decide_false, Bool.false_or]
      by_cases h : (r.any fun kv => decide (kv.1 = k)) = true
      · simp only [h, if_true, List.map_cons, e, if_false, lookD_cons] at ih ⊢
        rw [ih]
        by_cases e2 : a = k'
        · subst e2
          have e3 : ¬ k = a := fun h' => e h'.symm
          simp [e3]
        · simp [e2]
      · simp only [h, if_false, List.cons_append, lookD_cons] at ih ⊢
        have ih' : lookD (r ++ [(k, v)]) k' = if k = k' then some v else lookD r k' := by simpa using ih
        by_cases e2 : a = k'
        · subst e2
          have e3 : ¬ k = a := fun h' => e h'.symm
          simp [lookD_cons, e3]
        · simp [lookD_cons, e2, ih']
theorem putD_len (kvs : List (κ × D)) (k : κ) (v : D) : (putD kvs k v).length ≤ kvs.length + 1 := by
  unfold putD
  split
  · rw [List.length_map]; omega
  · simp
end
section
variable {env e : EV} {m : ME} {ms : List ME} {c : FN} {n : Nat} {fs ds dds : List D} {f : Option D} {d : D} {o : Bool}
theorem ev_exprX (h : m env = .exc n fs e) : mExpr m env = .exc n fs e := by
  unfold mExpr bindS; rw [h]
theorem ev_retX (h : m env = .exc n fs e) : mRet m env = .exc n fs e := by
  unfold mRet bindS; rw [h]
theorem ev_raise (h : m env = .ok d o e) : mRaise n m env = .exc n [d] e := by
  unfold mRaise bindS; rw [h]
theorem ev_callX (h : evL ms env = .ok ds e) (hc : c (ds ++ dds) = .exc n fs f) : mCall c ms dds env = .exc n fs e := by
  unfold mCall; rw [ev_bindL h]; unfold ansE; rw [hc]
theorem ev_callK {pd : List D → List D} {f : Option D} (h : evL ms env = .ok ds e) (hc : c (pd ds) = .ok d o f) : mCallK c ms pd env = .ok d o e := by
  unfold mCallK; rw [ev_bindL h]; unfold ansE; rw [hc]
end
theorem popAt_d {ds : List D} {r : Int} (h0 : 0 ≤ r) (h1 : r < ds.length) (h2 : ds.length ≤ 1000000) : ∃ h : r.toNat < ds.length, popAtP (.lst ds) [.int r] = some (.lst (ds.eraseIdx r.toNat), ds[r.toNat]) := by
  have hr : r.toNat < ds.length := by omega
  refine ⟨hr, ?_⟩
  have e : seqIndex? r ds.length = some r.toNat := by
    have hn : ¬ r < 0 := by omega
    simp [seqIndex?, hn, h0, h1]
  show (match decide (-(2 ^ 63) ≤ r) && decide (r < 2 ^ 63) with
    | true => match seqIndex? r ds.length with
      | some k => (ds[k]?).map fun y => (D.lst (ds.eraseIdx k), y)
      | none => none
    | false => none) = _
  rw [decide_eq_true (by omega : -(2 ^ 63) ≤ r), decide_eq_true (by omega : r < 2 ^ 63), e]
  show (ds[r.toNat]?).map _ = _
  rw [List.getElem?_eq_getElem hr]
  rfl
theorem erase_mapG {α : Type} (f : α → D) : ∀ (l : List α) (k : Nat), (l.map f).eraseIdx k = (l.eraseIdx k).map f
  | [], _ => rfl
  | x :: r, 0 => rfl
  | x :: r, k + 1 => by
    show f x :: (r.map f).eraseIdx k = f x :: (r.eraseIdx k).map f
    rw [erase_mapG f r k]
theorem perm_eraseG {α : Type} {y : α} : ∀ {l : List α} {k : Nat}, l[k]? = some y → (y :: l.eraseIdx k).Perm l
  | [], _, h => by simp at h
  | x :: r, 0, h => by
    have : x = y := by simpa using h
    subst this
    exact List.Perm.refl _
  | x :: r, k + 1, h => (List.Perm.swap x y _).trans (List.Perm.cons x (perm_eraseG (l := r) (k := k) (by simpa using h)))
theorem ev_forC {t : Tgt} {b : MS} {d : D} {r : List D} {env e e' : EV} (hs : setTg t d env = some e) (hb : b e = .nx e') : forE t b (d :: r) env = forE t b r e' := by
  show (match setTg t d env with
    | none => RS.bad
    | some e => match b e with
      | .nx e' => forE t b r e'
      | .ct e' => forE t b r e'
      | .bk e' => .nx e'
      | .rt d o e' => .rt d o e'
      | .exc c fs e' => .exc c fs e'
      | .bad => .bad) = _
  simp only [hs, hb]
theorem encD_of {d : D} {p : PyData} (h : pyD d = some p) : encD d = p := by unfold encD; rw [h]; rfl
open PySem.Spec PySem.W in
theorem leD_of {d e : D} {p q : PyData} (h1 : pyD d = some p) (h2 : pyD e = some q) : leD d e = !dataLt q p := by
  show (!dataLt (encD e) (encD d)) = _
  rw [encD_of h1, encD_of h2]
section
variable {env e : EV} {m : ME} {ds : List D} {o : Bool}
theorem ev_itL (h : m env = .ok (.lst ds) o e) : itSq m env = .ok ds e := by
  unfold itSq bindI; rw [h]; rfl
theorem ev_itT (h : m env = .ok (.tup ds) o e) : itSq m env = .ok ds e := by
  unfold itSq bindI; rw [h]; rfl
theorem ev_lcX {t : Tgt} {vs : List Nat} {mi : MI} {tt : MT} {me : ME} {r : RE} (hi : mi env = .ok ds e) (h : lcE t vs tt me ds [] e = r) (h0 : decide (0 ∉ vs) = true := by decide) : mLc t vs mi tt me env = r := by
  unfold mLc
  rw [h0, hi]
  exact h
end
section
variable {α : Type} {env e1 : EV} {g f : α → D}
theorem lc_filterG {t : Tgt} {vs : List Nat} {tt : MT} {me : ME} {e0 : EV} {p : α → Bool} : ∀ (as : List α) (acc : List D) (env : EV), wipeE env vs = e0 → (∀ a ∈ as, ∃ e1, setTg t (g a) e0 = some e1 ∧ tt e1 = .ok (p a) e1 ∧ wipeE e1 vs = e0 ∧ (p a = true → ∃ o e2, me e1 = .ok (f a) o e2 ∧ wipeE e2 vs = e0)) → lcE t vs tt me (as.map g) acc env = .ok (.lst (acc ++ (as.filter p).map f)) true e0
  | [], acc, env, hw, _ => by rw [List.filter_nil, List.map_nil, List.map_nil, List.append_nil]; show RE.ok (.lst acc) true (wipeE env vs) = _; rw [hw]
  | a :: r, acc, env, hw, h => by
    obtain ⟨e1, h1, h2, h3, h4⟩ := h a List.mem_cons_self
    rw [List.map_cons]
    show (match setTg t (g a) (wipeE env vs) with
      | none => RE.bad
      | some e => match tt e with
        | .ok true e1 => match me e1 with
          | .ok d' _ e2 => lcE t vs tt me (r.map g) (acc ++ [d']) e2
          | _ => .bad
        | .ok false e1 => lcE t vs tt me (r.map g) acc e1
        | _ => .bad) = _
    simp only [hw, h1, h2]
    have ih := fun acc env hw => lc_filterG r acc env hw fun x hx => h x (List.mem_cons_of_mem _ hx)
    cases q : p a with
    | true =>
      obtain ⟨o, e2, h5, h6⟩ := h4 q
      simp only [h5]
      rw [ih _ e2 h6, List.filter_cons_of_pos (by rw [q]), List.map_cons]
      simp
    | false =>
      simp only []
      rw [ih _ e1 h3, List.filter_cons_of_neg (by rw [q]; simp)]
theorem ev_lcFG {t : Tgt} {vs : List Nat} {mi : MI} {tt : MT} {me : ME} {e0 : EV} {p : α → Bool} {as : List α} (hi : mi env = .ok (as.map g) e1) (hw : wipeE e1 vs = e0) (h : ∀ a ∈ as, ∃ e1, setTg t (g a) e0 = some e1 ∧ tt e1 = .ok (p a) e1 ∧ wipeE e1 vs = e0 ∧ (p a = true → ∃ o e2, me e1 = .ok (f a) o e2 ∧ wipeE e2 vs = e0)) (h0 : decide (0 ∉ vs) = true := by decide) : mLc t vs mi tt me env = .ok (.lst ((as.filter p).map f)) true e0 := by
  refine ev_lcX hi ?_ h0
  rw [lc_filterG as [] e1 hw h, List.nil_append]
end
end DL

set_option Elab.async false
set_option linter.all false
set_option maxRecDepth 100000
set_option maxHeartbeats 2000000
/-! K39A: the defs of law k39, each with its reading. Printed by k39.py. -/
namespace K39
open PySem PySem.Spec PyProof.Rows L2 DL LamX
def top (i : Nat) : Stmt := PySem.Challenge.pw_neverabove_k39_orders_told_and_refused.main.body.getD i (.Pass ⟨0, 0, 0, 0⟩)
abbrev s_is_name : Stmt := top 3
abbrev s_is_listed : Stmt := top 4
abbrev s_ascends : Stmt := top 5
abbrev s_are_unlike : Stmt := top 6
abbrev s_are_names : Stmt := top 7
abbrev s_Table___init__ : Stmt := kidOf (top 16) 0
abbrev s_are_tables : Stmt := top 17
abbrev s_by_names : Stmt := top 18
abbrev s_is_pair : Stmt := top 21
abbrev s_Query___init__ : Stmt := kidOf (top 22) 0
abbrev s_need_query : Stmt := top 23
abbrev s_names_in : Stmt := top 25
abbrev s_is_order : Stmt := top 26
abbrev s_need_order : Stmt := top 27
abbrev s_lots_of : Stmt := top 28
abbrev s_is_chained : Stmt := top 29
abbrev s_steps_of : Stmt := top 30
abbrev s_is_chain : Stmt := top 31
abbrev s__law_pen : Stmt := top 33
abbrev s__law_draw : Stmt := top 34
abbrev s__law_pick : Stmt := top 35
abbrev s__law_words : Stmt := top 36
abbrev s__law_plain : Stmt := top 37
abbrev s__law_query : Stmt := top 38
abbrev s__law_lots : Stmt := top 39
abbrev s__law_trees : Stmt := top 40
abbrev s__law_in : Stmt := top 41
abbrev s__law_steps : Stmt := top 42
abbrev s__law_is_chain : Stmt := top 43
abbrev s__law_tree : Stmt := top 44
abbrev s__law_heard : Stmt := top 45
abbrev s__law_bent : Stmt := top 46
abbrev s_law : Stmt := top 47
def fieldsOf : Nat → List Str
  | 0 => ["name", "columns", "unique", "kind"]
  | 1 => ["tables", "pairs", "names"]
  | 2 => ["part"]
  | 3 => ["part"]
  | _ => []
abbrev ctx (K : PySem.W.Frag) (CA : Nat → Addr) (tt : List (Addr × Str)) : DL.Ctx := ⟨K, CA, fieldsOf, tt⟩
def anc : Nat → List Nat
  | 0 => [0]
  | 1 => [1]
  | 2 => [2]
  | 3 => [3]
  | _ => []
def ix_name : Nat → Option Nat
  | 0 => some 0
  | _ => none
def ix_columns : Nat → Option Nat
  | 0 => some 1
  | _ => none
def ix_unique : Nat → Option Nat
  | 0 => some 2
  | _ => none
def ix_kind : Nat → Option Nat
  | 0 => some 3
  | _ => none
def ix_tables : Nat → Option Nat
  | 1 => some 0
  | _ => none
def ix_pairs : Nat → Option Nat
  | 1 => some 1
  | _ => none
def ix_names : Nat → Option Nat
  | 1 => some 2
  | _ => none
def ix_x_part : Nat → Option Nat
  | 2 => some 0
  | 3 => some 0
  | _ => none
def hs_MostError : Nat → Option Bool
  | 2 => some true
  | 3 => some true
  | _ => none
abbrev lamB : Str := (envOfC "by_names" (defScope s_by_names) 0 0 Value.none).qual ++ "<lambda>"
/-- what the top has written -/
structure Txt (P : Program) (K : PySem.W.Frag) (mg : Str → Option Value) (CA : Nat → Addr) (CM : Addr) (fI : Nat → Addr) (tt : List (Addr × Str)) : Prop where
  n_len : mg "len" = none
  n_all : mg "all" = none
  n_sorted : mg "sorted" = none
  n_abs : mg "abs" = none
  n_zip : mg "zip" = none
  n_range : mg "range" = none
  n_repr : mg "repr" = none
  n_isinstance : mg "isinstance" = none
  n_sum : mg "sum" = none
  n_str : mg "str" = none
  n_list : mg "list" = none
  n_tuple : mg "tuple" = none
  n_int : mg "int" = none
  n_bool : mg "bool" = none
  n_dict : mg "dict" = none
  v_LETTERS : ∃ t, mg "LETTERS" = some (.str "abcdefghijklmnopqrstuvwxyz" t)
  v_MOST_SIGNS : ∃ t, mg "MOST_SIGNS" = some (.int 8 t)
  v_MOST_COLUMNS : ∃ t, mg "MOST_COLUMNS" = some (.int 5 t)
  v_MOST_TABLES : ∃ t, mg "MOST_TABLES" = some (.int 8 t)
  v_KINDS : ∃ a, mg "KINDS" = some (.ref a) ∧ KTup K a [.str "heap", .str "set"]
  ins : ∀ c, [0, 1].contains c = true → InsK K (CA c)
  k_str : KitOk K (ctx K CA tt) anc [0, 1] .str
  k_list : KitOk K (ctx K CA tt) anc [0, 1] .list
  k_tuple : KitOk K (ctx K CA tt) anc [0, 1] .tuple
  k_int : KitOk K (ctx K CA tt) anc [0, 1] .int
  k_bool : KitOk K (ctx K CA tt) anc [0, 1] .bool
  k_Table : KitOk K (ctx K CA tt) anc [0, 1] (.own 0)
  k_Query : KitOk K (ctx K CA tt) anc [0, 1] (.own 1)
  g_Table : mg "Table" = some (.ref (CA 0))
  g_Query : mg "Query" = some (.ref (CA 1))
  g_BadQuery : mg "BadQuery" = some (.ref (CA 2))
  g_BadOrder : mg "BadOrder" = some (.ref (CA 3))
  g_MostError : mg "MostError" = some (.ref CM)
  f_name : FldOk K (ctx K CA tt) "name" ix_name
  f_columns : FldOk K (ctx K CA tt) "columns" ix_columns
  f_unique : FldOk K (ctx K CA tt) "unique" ix_unique
  f_kind : FldOk K (ctx K CA tt) "kind" ix_kind
  f_tables : FldOk K (ctx K CA tt) "tables" ix_tables
  f_pairs : FldOk K (ctx K CA tt) "pairs" ix_pairs
  f_names : FldOk K (ctx K CA tt) "names" ix_names
  x_BadQuery : ExT P K mg (CA 2) (fI 2) "part"
  x_BadOrder : ExT P K mg (CA 3) (fI 3) "part"
  xk : ∀ c, [2, 3].contains c = true → ∀ k, [2, 3].contains k = true → ExcC K (CA k) ∧ PySem.W.kitOne K (.ref (CA k)) (.ref (CA c)) = some ((anc k).contains c)
  fx_part : FldX K (ctx K CA tt) "part" ix_x_part
  hs_MostError : ∀ c b, hs_MostError c = some b → PySem.W.exmOne K (.ref (CA c)) (.ref CM) = some b
section
variable {P : Program} {w : World} {K : PySem.W.Frag} {mg : Str → Option Value} {base : Heap} {CA : Nat → Addr} {CM : Addr} {fI : Nat → Addr} {tt : List (Addr × Str)} {X : Cx} {W : WX} {pos : Pos}
theorem Txt.fl (_T : Txt P K mg CA CM fI tt) : ∀ c, ((ctx K CA tt).F c).length ≤ 900 := fun c => by
  show (fieldsOf c).length ≤ 900
  unfold fieldsOf
  split <;> decide
theorem Txt.c_LETTERS (T : Txt P K mg CA CM fI tt) (hg : Gl X "LETTERS") (hm : X.mg = mg) : DE X (ctx K CA tt) W (.Name "LETTERS" pos) (mC (.str "abcdefghijklmnopqrstuvwxyz")) := by
  obtain ⟨t, h⟩ := T.v_LETTERS
  exact de_glob (v := .str "abcdefghijklmnopqrstuvwxyz") hg (by rw [hm]; exact h) ⟨t, rfl⟩ fun _ _ => .str (by decide +kernel)
theorem Txt.c_MOST_SIGNS (T : Txt P K mg CA CM fI tt) (hg : Gl X "MOST_SIGNS") (hm : X.mg = mg) : DE X (ctx K CA tt) W (.Name "MOST_SIGNS" pos) (mC (.int 8)) := by
  obtain ⟨t, h⟩ := T.v_MOST_SIGNS
  exact de_glob (v := .int 8) hg (by rw [hm]; exact h) ⟨t, rfl⟩ fun _ _ => .int
theorem Txt.c_MOST_COLUMNS (T : Txt P K mg CA CM fI tt) (hg : Gl X "MOST_COLUMNS") (hm : X.mg = mg) : DE X (ctx K CA tt) W (.Name "MOST_COLUMNS" pos) (mC (.int 5)) := by
  obtain ⟨t, h⟩ := T.v_MOST_COLUMNS
  exact de_glob (v := .int 5) hg (by rw [hm]; exact h) ⟨t, rfl⟩ fun _ _ => .int
theorem Txt.c_MOST_TABLES (T : Txt P K mg CA CM fI tt) (hg : Gl X "MOST_TABLES") (hm : X.mg = mg) : DE X (ctx K CA tt) W (.Name "MOST_TABLES" pos) (mC (.int 8)) := by
  obtain ⟨t, h⟩ := T.v_MOST_TABLES
  exact de_glob (v := .int 8) hg (by rw [hm]; exact h) ⟨t, rfl⟩ fun _ _ => .int
theorem Txt.c_KINDS (T : Txt P K mg CA CM fI tt) (hg : Gl X "KINDS") (hm : X.mg = mg) : DE X (ctx K CA tt) W (.Name "KINDS" pos) (mC (.tup [.str "heap", .str "set"])) := by
  obtain ⟨a, h, k⟩ := T.v_KINDS
  exact de_glob (v := .ref a) hg (by rw [hm]; exact h) rfl fun _ _ => .ktup k (.cons (.str (by decide +kernel)) (.cons (.str (by decide +kernel)) .nil))
end
/-! ### is_name -/
abbrev n_is_name : List Str := ["value", "sign"]
theorem sc_is_name : FnScope n_is_name ["value"] (defScope s_is_name) := ⟨rfl, rfl, rfl, by decide +kernel, rfl, by decide +kernel, by decide +kernel⟩
def b_is_name : MS :=
    mRet (mAndV (mO1 (isiP anc [0, 1] [.str]) (.pl 0)) (mAndV (mCh (cmpP fun i j => decide (i ≤ j)) (cmpP fun i j => decide (i ≤ j)) (mC (.int 1)) (mO1 lenP (.pl 0)) (mC (.int 8))) (mO1 allP (.ex (mLc (.nm 1) [1] (itSq (mV 0)) (mYes) (mO2 (inP false) (.pl 1) (.ex (mC (.str "abcdefghijklmnopqrstuvwxyz")))))))))
def c_is_name : FN := mkFn 2 false b_is_name
theorem ok_is_name {P : Program} {w : World} {K : PySem.W.Frag} {mg : Str → Option Value} {base : Heap} {CA : Nat → Addr} {CM : Addr} {fI : Nat → Addr} {tt : List (Addr × Str)} (T : Txt P K mg CA CM fI tt)  {f : Addr} {fd : FuncData} (F : Fun K "is_name" "is_name" s_is_name f fd) :
    FnOk P w K mg base (L2.CX P w) 2 f fd ["value"] (SpF (ctx K CA tt) false 1 c_is_name) :=
  have ND := sc_is_name.nd
  have hK : (ctx K CA tt).K = K := rfl
  fn_ok F sc_is_name (by decide) (fun _ => by decide) fun cdv A outer s H E hr tk =>
    dss_one (ds_ret (de_and (de_isi hK T.ins T.k_str rfl T.n_isinstance (pv 0) (pe_ty rfl T.n_str (by decide +kernel))) (de_and (de_chain (op_le) (op_le) (cmpP_ok) (cmpP_ok) (de_int) (de_b1 call_len (lenP_ok hK) rfl T.n_len (by decide +kernel) (pv 0)) (T.c_MOST_SIGNS rfl rfl)) (de_one (de_b1 (cr_all rfl) (allP_ok) rfl T.n_all (by decide +kernel) (de_lc (own := [("sign", 1)]) rfl ND (di_sqQ hK (de_v (pv 0))) (by rfl) (fun _ _ _ _ _ => dg_nm ND rfl (.inl rfl)) (fun _ _ _ _ _ => dts_nil) (fun _ _ _ _ _ => de_cmp (op_inAll) (inP_ok hK) (pv 1) (T.c_LETTERS rfl rfl) (by with_unfolding_all rfl))))))))
/-! ### is_listed -/
abbrev n_is_listed : List Str := ["value"]
theorem sc_is_listed : FnScope n_is_listed ["value"] (defScope s_is_listed) := ⟨rfl, rfl, rfl, by decide +kernel, rfl, by decide +kernel, by decide +kernel⟩
def b_is_listed : MS :=
    mRet (mO1 (isiP anc [0, 1] [.list, .tuple]) (.pl 0))
def c_is_listed : FN := mkFn 1 false b_is_listed
theorem ok_is_listed {P : Program} {w : World} {K : PySem.W.Frag} {mg : Str → Option Value} {base : Heap} {CA : Nat → Addr} {CM : Addr} {fI : Nat → Addr} {tt : List (Addr × Str)} (T : Txt P K mg CA CM fI tt)  {f : Addr} {fd : FuncData} (F : Fun K "is_listed" "is_listed" s_is_listed f fd) :
    FnOk P w K mg base (L2.CX P w) 2 f fd ["value"] (SpF (ctx K CA tt) false 1 c_is_listed) :=
  have ND := sc_is_listed.nd
  have hK : (ctx K CA tt).K = K := rfl
  fn_ok F sc_is_listed (by decide) (fun _ => by decide) fun cdv A outer s H E hr tk =>
    dss_one (ds_ret (de_isi2 hK T.ins T.k_list T.k_tuple rfl T.n_isinstance (pv 0) (pe_ty rfl T.n_list (by decide +kernel)) (pe_ty rfl T.n_tuple (by decide +kernel))))
/-! ### ascends -/
abbrev n_ascends : List Str := ["some", "one", "other"]
theorem sc_ascends : FnScope n_ascends ["some"] (defScope s_ascends) := ⟨rfl, rfl, rfl, by decide +kernel, rfl, by decide +kernel, by decide +kernel⟩
def b_ascends : MS :=
    mRet (mO1 allP (.ex (mLc (.tp [.nm 1, .nm 2]) [1, 2] (mZip (mV 0) (mSl (.pl 0) (some (mC (.int 1))) none)) (mYes) (mO2 ltP (.pl 1) (.pl 2)))))
def c_ascends : FN := mkFn 3 false b_ascends
theorem ok_ascends {P : Program} {w : World} {K : PySem.W.Frag} {mg : Str → Option Value} {base : Heap} {CA : Nat → Addr} {CM : Addr} {fI : Nat → Addr} {tt : List (Addr × Str)} (T : Txt P K mg CA CM fI tt)  {f : Addr} {fd : FuncData} (F : Fun K "ascends" "ascends" s_ascends f fd) :
    FnOk P w K mg base (L2.CX P w) 2 f fd ["some"] (SpF (ctx K CA tt) false 1 c_ascends) :=
  have ND := sc_ascends.nd
  have hK : (ctx K CA tt).K = K := rfl
  fn_ok F sc_ascends (by decide) (fun _ => by decide) fun cdv A outer s H E hr tk =>
    dss_one (ds_ret (de_b1 (cr_all rfl) (allP_ok) rfl T.n_all (by decide +kernel) (de_lc (own := [("one", 1), ("other", 2)]) rfl ND (di_zip hK rfl T.n_zip (da_cons (de_v (pv 0)) (da_cons (de_slice hK (pv 0) (dpo_some (de_int)) dpo_none) (da_nil)))) (by rfl) (fun _ _ _ _ _ => dg_tp hK rfl (dgs_cons (dg_nm ND rfl (.inl rfl)) (dgs_cons (dg_nm ND rfl (.inl rfl)) (dgs_nil)))) (fun _ _ _ _ _ => dts_nil) (fun _ _ _ _ _ => de_cmp (op_ltAll) (ltP_ok) (pv 1) (pv 2) (nomark _)))))
/-! ### are_unlike -/
abbrev n_are_unlike : List Str := ["some"]
theorem sc_are_unlike : FnScope n_are_unlike ["some"] (defScope s_are_unlike) := ⟨rfl, rfl, rfl, by decide +kernel, rfl, by decide +kernel, by decide +kernel⟩
def b_are_unlike : MS :=
    mRet (mCall c_ascends [mO1 sortQ (.pl 0)] [])
def c_are_unlike : FN := mkFn 1 false b_are_unlike
theorem ok_are_unlike {P : Program} {w : World} {K : PySem.W.Frag} {mg : Str → Option Value} {base : Heap} {CA : Nat → Addr} {CM : Addr} {fI : Nat → Addr} {tt : List (Addr × Str)} (T : Txt P K mg CA CM fI tt) (Cascends : Cal P w K mg base (ctx K CA tt) "ascends" false 1 2 c_ascends []) {f : Addr} {fd : FuncData} (F : Fun K "are_unlike" "are_unlike" s_are_unlike f fd) :
    FnOk P w K mg base (L2.CX P w) 3 f fd ["some"] (SpF (ctx K CA tt) false 1 c_are_unlike) :=
  have ND := sc_are_unlike.nd
  have hK : (ctx K CA tt).K = K := rfl
  fn_ok F sc_are_unlike (by decide) (fun _ => by decide) fun cdv A outer s H E hr tk =>
    dss_one (ds_ret (de_cal Cascends hr (by decide) rfl tk (da_cons (de_b1 cr_sortQ (sortQ_ok hK) rfl T.n_sorted (by decide +kernel) (pv 0)) (da_nil)) rfl))
/-! ### are_names -/
abbrev n_are_names : List Str := ["value", "least", "most", "one"]
theorem sc_are_names : FnScope n_are_names ["value", "least", "most"] (defScope s_are_names) := ⟨rfl, rfl, rfl, by decide +kernel, rfl, by decide +kernel, by decide +kernel⟩
def b_are_names : MS :=
    mSeq (mIfS (mOrT (mNotT (mT (mCall c_is_listed [mV 0] []))) (mNotT (mT (mCh (cmpP fun i j => decide (i ≤ j)) (cmpP fun i j => decide (i ≤ j)) (mV 1) (mO1 lenP (.pl 0)) (mV 2))))) (mRet (mC (.bl false))) (mNext))
    (mRet (mAndV (mO1 allP (.ex (mLc (.nm 3) [3] (itSq (mV 0)) (mYes) (mCall c_is_name [mV 3] [])))) (mCall c_are_unlike [mV 0] [])))
def c_are_names : FN := mkFn 4 false b_are_names
theorem ok_are_names {P : Program} {w : World} {K : PySem.W.Frag} {mg : Str → Option Value} {base : Heap} {CA : Nat → Addr} {CM : Addr} {fI : Nat → Addr} {tt : List (Addr × Str)} (T : Txt P K mg CA CM fI tt) (Cis_listed : Cal P w K mg base (ctx K CA tt) "is_listed" false 1 2 c_is_listed []) (Cis_name : Cal P w K mg base (ctx K CA tt) "is_name" false 1 2 c_is_name []) (Care_unlike : Cal P w K mg base (ctx K CA tt) "are_unlike" false 1 3 c_are_unlike []) {f : Addr} {fd : FuncData} (F : Fun K "are_names" "are_names" s_are_names f fd) :
    FnOk P w K mg base (L2.CX P w) 4 f fd ["value", "least", "most"] (SpF (ctx K CA tt) false 3 c_are_names) :=
  have ND := sc_are_names.nd
  have hK : (ctx K CA tt).K = K := rfl
  fn_ok F sc_are_names (by decide) (fun _ => by decide) fun cdv A outer s H E hr tk =>
    dss_cons (ds_if (dt_w (dw_or (dt_not (dt_val (de_cal Cis_listed hr (by decide) rfl tk (da_cons (de_v (pv 0)) (da_nil)) rfl))) (dw_or1 (dt_not (dt_chain (op_le) (op_le) (cmpP_ok) (cmpP_ok) (de_v (pv 1)) (de_b1 call_len (lenP_ok hK) rfl T.n_len (by decide +kernel) (pv 0)) (de_v (pv 2))))))) (dss_one (ds_ret (de_bl))) (dss_nil))
    (dss_one (ds_ret (de_and (de_b1 (cr_all rfl) (allP_ok) rfl T.n_all (by decide +kernel) (de_lc (own := [("one", 3)]) rfl ND (di_sqQ hK (de_v (pv 0))) (by rfl) (fun _ _ _ _ _ => dg_nm ND rfl (.inl rfl)) (fun _ _ _ _ _ => dts_nil) (fun _ _ _ _ _ => de_cal Cis_name hr (by decide) rfl LamX.takes0 (da_cons (de_v (pv 3)) (da_nil)) rfl))) (de_one (de_cal Care_unlike hr (by decide) rfl tk (da_cons (de_v (pv 0)) (da_nil)) rfl)))))
/-! ### Table.__init__ -/
abbrev n_Table___init__ : List Str := ["self", "name", "columns", "unique", "kind", "key"]
theorem sc_Table___init__ : FnScope n_Table___init__ ["self", "name", "columns", "unique", "kind"] (defScope s_Table___init__) := ⟨rfl, rfl, rfl, by decide +kernel, rfl, by decide +kernel, by decide +kernel⟩
def b_Table___init__ : MS :=
    mSeq (mIfS (mNotT (mT (mCall c_is_name [mV 1] []))) ((fun _ => .bad)) (mNext))
    (mSeq (mIfS (mNotT (mT (mCall c_are_names [mV 2, mC (.int 1), mC (.int 5)] []))) ((fun _ => .bad)) (mNext))
    (mSeq (mIfS (mOrT (mNotT (mT (mCall c_are_names [mV 3, mC (.int 0), mC (.int 5)] []))) (mNotT (mT (mO1 allP (.ex (mLc (.nm 5) [5] (itSq (mV 3)) (mYes) (mO2 (inP false) (.pl 5) (.pl 2)))))))) ((fun _ => .bad)) (mNext))
    (mSeq (mIfS (mOrT (mNotT (mT (mO1 (isiP anc [0, 1] [.str]) (.pl 4)))) (mT (mO2 (inP true) (.pl 4) (.ex (mC (.tup [.str "heap", .str "set"])))))) ((fun _ => .bad)) (mNext))
    (mSeq (mFld 0 ix_name (mV 1))
    (mSeq (mFld 0 ix_columns (mO1 tupleP (.pl 2)))
    (mSeq (mFld 0 ix_unique (mO1 tupleP (.ex (mO1 sortQ (.pl 3)))))
    (mFld 0 ix_kind (mV 4))))))))
def c_Table___init__ : FN := mkFn 6 true b_Table___init__
theorem ok_Table___init__ {P : Program} {w : World} {K : PySem.W.Frag} {mg : Str → Option Value} {base : Heap} {CA : Nat → Addr} {CM : Addr} {fI : Nat → Addr} {tt : List (Addr × Str)} (T : Txt P K mg CA CM fI tt) (Cis_name : Cal P w K mg base (ctx K CA tt) "is_name" false 1 2 c_is_name []) (Care_names : Cal P w K mg base (ctx K CA tt) "are_names" false 3 4 c_are_names []) {f : Addr} {fd : FuncData} {dvs : List V} (F : FunD K "__init__" "Table.__init__" (defArgs s_Table___init__) (defBody s_Table___init__) (defScope s_Table___init__) dvs [] f fd) :
    FnOk P w K mg base (L2.CX P w) 5 f fd ["self", "name", "columns", "unique", "kind"] (SpF (ctx K CA tt) true 5 c_Table___init__) :=
  have ND := sc_Table___init__.nd
  have hK : (ctx K CA tt).K = K := rfl
  fn_okD F sc_Table___init__ (by decide) (fun _ => by decide) fun cdv A outer s H E hr tk =>
    dss_cons (ds_if (dt_not (dt_val (de_cal Cis_name hr (by decide) rfl tk (da_cons (de_v (pv 1)) (da_nil)) rfl))) (dss_one (ds_bad)) (dss_nil))
    (dss_cons (ds_if (dt_not (dt_val (de_cal Care_names hr (by decide) rfl tk (da_cons (de_v (pv 2)) (da_cons (de_int) (da_cons (T.c_MOST_COLUMNS rfl rfl) (da_nil)))) rfl))) (dss_one (ds_bad)) (dss_nil))
    (dss_cons (ds_if (dt_w (dw_or (dt_not (dt_val (de_cal Care_names hr (by decide) rfl tk (da_cons (de_v (pv 3)) (da_cons (de_int) (da_cons (T.c_MOST_COLUMNS rfl rfl) (da_nil)))) rfl))) (dw_or1 (dt_not (dt_val (de_b1 (cr_all rfl) (allP_ok) rfl T.n_all (by decide +kernel) (de_lc (own := [("key", 5)]) rfl ND (di_sqQ hK (de_v (pv 3))) (by rfl) (fun _ _ _ _ _ => dg_nm ND rfl (.inl rfl)) (fun _ _ _ _ _ => dts_nil) (fun _ _ _ _ _ => de_cmp (op_inAll) (inP_ok hK) (pv 5) (pv 2) (by with_unfolding_all rfl))))))))) (dss_one (ds_bad)) (dss_nil))
    (dss_cons (ds_if (dt_w (dw_or (dt_not (dt_val (de_isi hK T.ins T.k_str rfl T.n_isinstance (pv 4) (pe_ty rfl T.n_str (by decide +kernel))))) (dw_or1 (dt_cmp (op_notInAll) (inP_ok hK) (pv 4) (T.c_KINDS rfl rfl) (by with_unfolding_all rfl))))) (dss_one (ds_bad)) (dss_nil))
    (dss_cons (ds_fld T.f_name T.fl (pv 0) (de_v (pv 1)))
    (dss_cons (ds_fld T.f_columns T.fl (pv 0) (de_t1 call_tuple_of (tupleP_ok hK) rfl T.n_tuple (by decide +kernel) (pv 2)))
    (dss_cons (ds_fld T.f_unique T.fl (pv 0) (de_t1 call_tuple_of (tupleP_ok hK) rfl T.n_tuple (by decide +kernel) (de_b1 cr_sortQ (sortQ_ok hK) rfl T.n_sorted (by decide +kernel) (pv 3))))
    (dss_one (ds_fld T.f_kind T.fl (pv 0) (de_v (pv 4))))))))))
/-! ### are_tables -/
abbrev n_are_tables : List Str := ["value", "most", "one", "names", "table", "columns", "some", "other"]
theorem sc_are_tables : FnScope n_are_tables ["value", "most"] (defScope s_are_tables) := ⟨rfl, rfl, rfl, by decide +kernel, rfl, by decide +kernel, by decide +kernel⟩
def b_are_tables : MS :=
    mSeq (mIfS (mOrT (mNotT (mT (mCall c_is_listed [mV 0] []))) (mOrT (mNotT (mT (mCh (cmpP fun i j => decide (i ≤ j)) (cmpP fun i j => decide (i ≤ j)) (mC (.int 1)) (mO1 lenP (.pl 0)) (mV 1)))) (mNotT (mT (mO1 allP (.ex (mLc (.nm 2) [2] (itSq (mV 0)) (mYes) (mO1 (isiP anc [0, 1] [.own 0]) (.pl 2))))))))) (mRet (mC (.bl false))) (mNext))
    (mSeq (mSet 3 (mO1 sortQ (.ex (mLc (.nm 4) [4] (itSq (mV 0)) (mYes) (mO1 (attrP ix_name) (.pl 4))))))
    (mSeq (mSet 5 (mO1 sortQ (.ex (mO2 sumLP (.ex (mLc (.nm 4) [4] (itSq (mV 0)) (mYes) (mO1 listQ (.ex (mO1 (attrP ix_columns) (.pl 4)))))) (.ex (mLst []))))))
    (mRet (mO1 allP (.ex (mLc2 (.nm 6) [6, 2, 7] (itSq (mTup [mV 3, mV 5])) (mYes) (mZip (mV 6) (mSl (.pl 6) (some (mC (.int 1))) none)) (.tp [.nm 2, .nm 7]) [2, 7] (mYes) (mO2 neP (.pl 2) (.pl 7))))))))
def c_are_tables : FN := mkFn 8 false b_are_tables
theorem ok_are_tables {P : Program} {w : World} {K : PySem.W.Frag} {mg : Str → Option Value} {base : Heap} {CA : Nat → Addr} {CM : Addr} {fI : Nat → Addr} {tt : List (Addr × Str)} (T : Txt P K mg CA CM fI tt) (Cis_listed : Cal P w K mg base (ctx K CA tt) "is_listed" false 1 2 c_is_listed []) {f : Addr} {fd : FuncData} (F : Fun K "are_tables" "are_tables" s_are_tables f fd) :
    FnOk P w K mg base (L2.CX P w) 3 f fd ["value", "most"] (SpF (ctx K CA tt) false 2 c_are_tables) :=
  have ND := sc_are_tables.nd
  have hK : (ctx K CA tt).K = K := rfl
  fn_ok F sc_are_tables (by decide) (fun _ => by decide) fun cdv A outer s H E hr tk =>
    dss_cons (ds_if (dt_w (dw_or (dt_not (dt_val (de_cal Cis_listed hr (by decide) rfl tk (da_cons (de_v (pv 0)) (da_nil)) rfl))) (dw_or (dt_not (dt_chain (op_le) (op_le) (cmpP_ok) (cmpP_ok) (de_int) (de_b1 call_len (lenP_ok hK) rfl T.n_len (by decide +kernel) (pv 0)) (de_v (pv 1)))) (dw_or1 (dt_not (dt_val (de_b1 (cr_all rfl) (allP_ok) rfl T.n_all (by decide +kernel) (de_lc (own := [("one", 2)]) rfl ND (di_sqQ hK (de_v (pv 0))) (by rfl) (fun _ _ _ _ _ => dg_nm ND rfl (.inl rfl)) (fun _ _ _ _ _ => dts_nil) (fun _ _ _ _ _ => de_isi hK T.ins T.k_Table rfl T.n_isinstance (pv 2) (pe_cls rfl T.g_Table)))))))))) (dss_one (ds_ret (de_bl))) (dss_nil))
    (dss_cons (ds_set ND rfl (.inl rfl) (de_b1 cr_sortQ (sortQ_ok hK) rfl T.n_sorted (by decide +kernel) (de_lc (own := [("table", 4)]) rfl ND (di_sqQ hK (de_v (pv 0))) (by rfl) (fun _ _ _ _ _ => dg_nm ND rfl (.inl rfl)) (fun _ _ _ _ _ => dts_nil) (fun _ _ _ _ _ => de_attr T.f_name (pv 4)))))
    (dss_cons (ds_set ND rfl (.inl rfl) (de_b1 cr_sortQ (sortQ_ok hK) rfl T.n_sorted (by decide +kernel) (de_b2 (cr_sumL rfl) sumLP_ok rfl T.n_sum (by decide +kernel) (de_lc (own := [("table", 4)]) rfl ND (di_sqQ hK (de_v (pv 0))) (by rfl) (fun _ _ _ _ _ => dg_nm ND rfl (.inl rfl)) (fun _ _ _ _ _ => dts_nil) (fun _ _ _ _ _ => de_t1 call_list_of (listQ_ok hK) rfl T.n_list (by decide +kernel) (de_attr T.f_columns (pv 4)))) (de_lst (da_nil)))))
    (dss_one (ds_ret (de_b1 (cr_all rfl) (allP_ok) rfl T.n_all (by decide +kernel) (de_lc2 (own := [("some", 6), ("one", 2), ("other", 7)]) (vs1 := [2, 7]) rfl ND (di_sqQ hK (de_tup (da_cons (de_v (pv 3)) (da_cons (de_v (pv 5)) (da_nil))))) (by rfl) (by decide) (fun _ _ _ _ _ => dg_nm ND rfl (.inl rfl)) (fun _ _ _ _ _ => dts_nil) (fun _ _ _ _ _ => di_zip hK rfl T.n_zip (da_cons (de_v (pv 6)) (da_cons (de_slice hK (pv 6) (dpo_some (de_int)) dpo_none) (da_nil)))) (fun _ _ _ _ _ => dg_tp hK rfl (dgs_cons (dg_nm ND rfl (.inl rfl)) (dgs_cons (dg_nm ND rfl (.inl rfl)) (dgs_nil)))) (fun _ _ _ _ _ => dts_nil) (fun _ _ _ _ _ => de_cmp (op_neD (un64 hr)) (neP_ok hK) (pv 2) (pv 7) (nomark _))))))))
/-! ### by_names -/
abbrev n_by_names : List Str := ["tables"]
theorem sc_by_names : FnScope n_by_names ["tables"] (defScope s_by_names) := ⟨rfl, rfl, rfl, by decide +kernel, rfl, by decide +kernel, by decide +kernel⟩
def b_by_names : MS :=
    mRet (mO1 tupleP (.ex (mSortA ix_name (mV 0))))
def c_by_names : FN := mkFn 1 false b_by_names
theorem ok_by_names {P : Program} {w : World} {K : PySem.W.Frag} {mg : Str → Option Value} {base : Heap} {CA : Nat → Addr} {CM : Addr} {fI : Nat → Addr} {tt : List (Addr × Str)} (T : Txt P K mg CA CM fI tt)  {f c P2 : Addr} (L : LawD K "by_names" s_by_names f c P2) (TB : TabB base mg c P2) (hmT : (P2, lamB) ∈ tt) (hu : ∀ p ∈ tt, p.1 = P2 → p.2 = lamB) :
    ∃ fd, FnOk P w K mg base (L2.CX P w) 2 f fd ["tables"] (SpF (ctx K CA tt) false 1 c_by_names) ∧ Binds K fd ["tables"] [] :=
  have ND := sc_by_names.nd
  have hK : (ctx K CA tt).K = K := rfl
  fn_okL L sc_by_names (by decide) (fun _ => by decide) (fun _ _ _ _ _ _ us hl => match us, hl with | [_], _ => rfl) fun A outer s H E hr tk =>
    dss_one (ds_ret (de_t1 call_tuple_of (tupleP_ok hK) rfl T.n_tuple (by decide +kernel) (de_sortA rfl T.n_sorted hK T.f_name (de_v (pv 0)) TB rfl hmT hu hr rfl rfl rfl rfl rfl (fun _ _ _ _ _ _ => rfl))))
/-! ### is_pair -/
abbrev n_is_pair : List Str := ["value", "homes", "one"]
theorem sc_is_pair : FnScope n_is_pair ["value", "homes"] (defScope s_is_pair) := ⟨rfl, rfl, rfl, by decide +kernel, rfl, by decide +kernel, by decide +kernel⟩
def b_is_pair : MS :=
    mSeq (mIfS (mOrT (mNotT (mT (mCall c_is_listed [mV 0] []))) (mOrT (mT (mO2 neP (.ex (mO1 lenP (.pl 0))) (.ex (mC (.int 2))))) (mNotT (mT (mO1 allP (.ex (mLc (.nm 2) [2] (itSq (mV 0)) (mYes) (mAndV (mCall c_is_name [mV 2] []) (mO2 (hasK false) (.pl 2) (.pl 1)))))))))) (mRet (mC (.bl false))) (mNext))
    (mRet (mO2 neP (.ex (mO2 dgetP (.pl 1) (.ex (mO2 ixP (.pl 0) (.ex (mC (.int 0))))))) (.ex (mO2 dgetP (.pl 1) (.ex (mO2 ixP (.pl 0) (.ex (mC (.int 1)))))))))
def c_is_pair : FN := mkFn 3 false b_is_pair
theorem ok_is_pair {P : Program} {w : World} {K : PySem.W.Frag} {mg : Str → Option Value} {base : Heap} {CA : Nat → Addr} {CM : Addr} {fI : Nat → Addr} {tt : List (Addr × Str)} (T : Txt P K mg CA CM fI tt) (Cis_listed : Cal P w K mg base (ctx K CA tt) "is_listed" false 1 2 c_is_listed []) (Cis_name : Cal P w K mg base (ctx K CA tt) "is_name" false 1 2 c_is_name []) {f : Addr} {fd : FuncData} (F : Fun K "is_pair" "is_pair" s_is_pair f fd) :
    FnOk P w K mg base (L2.CX P w) 3 f fd ["value", "homes"] (SpF (ctx K CA tt) false 2 c_is_pair) :=
  have ND := sc_is_pair.nd
  have hK : (ctx K CA tt).K = K := rfl
  fn_ok F sc_is_pair (by decide) (fun _ => by decide) fun cdv A outer s H E hr tk =>
    dss_cons (ds_if (dt_w (dw_or (dt_not (dt_val (de_cal Cis_listed hr (by decide) rfl tk (da_cons (de_v (pv 0)) (da_nil)) rfl))) (dw_or (dt_cmp (op_neD (un64 hr)) (neP_ok hK) (de_b1 call_len (lenP_ok hK) rfl T.n_len (by decide +kernel) (pv 0)) (de_int) (nomark _)) (dw_or1 (dt_not (dt_val (de_b1 (cr_all rfl) (allP_ok) rfl T.n_all (by decide +kernel) (de_lc (own := [("one", 2)]) rfl ND (di_sqQ hK (de_v (pv 0))) (by rfl) (fun _ _ _ _ _ => dg_nm ND rfl (.inl rfl)) (fun _ _ _ _ _ => dts_nil) (fun _ _ _ _ _ => de_and (de_cal Cis_name hr (by decide) rfl LamX.takes0 (da_cons (de_v (pv 2)) (da_nil)) rfl) (de_one (de_din (un1 hr) (pv 2) (pv 1)))))))))))) (dss_one (ds_ret (de_bl))) (dss_nil))
    (dss_one (ds_ret (de_cmp (op_neD (un64 hr)) (neP_ok hK) (de_dget (un1 hr) (pv 1) (de_ix ix_seq (ixP_ok hK) (pv 0) (de_int))) (de_dget (un1 hr) (pv 1) (de_ix ix_seq (ixP_ok hK) (pv 0) (de_int))) (nomark _))))
/-! ### Query.__init__ -/
abbrev n_Query___init__ : List Str := ["self", "tables", "pairs", "homes", "table", "column", "pair"]
theorem sc_Query___init__ : FnScope n_Query___init__ ["self", "tables", "pairs"] (defScope s_Query___init__) := ⟨rfl, rfl, rfl, by decide +kernel, rfl, by decide +kernel, by decide +kernel⟩
def b_Query___init__ : MS :=
    mSeq (mIfS (mNotT (mT (mCall c_are_tables [mV 1, mC (.int 8)] []))) (mRaise 2 (mC (.str "tables"))) (mNext))
    (mSeq (mSet 3 (mDc2 (.nm 4) [4, 5] (itSq (mV 1)) (mYes) (itSq (mO1 (attrP ix_columns) (.pl 4))) (.nm 5) [5] (mYes) (mV 5) (mO1 (attrP ix_name) (.pl 4))))
    (mSeq (mIfS (mOrT (mNotT (mT (mCall c_is_listed [mV 2] []))) (mNotT (mT (mO1 allP (.ex (mLc (.nm 6) [6] (itSq (mV 2)) (mYes) (mCall c_is_pair [mV 6, mV 3] []))))))) (mRaise 2 (mC (.str "pairs"))) (mNext))
    (mSeq (mFld 0 ix_tables (mCall c_by_names [mV 1] []))
    (mSeq (mFld 0 ix_pairs (mO1 tupleP (.ex (mLc (.nm 6) [6] (itSq (mV 2)) (mYes) (mO1 tupleP (.pl 6))))))
    (mFld 0 ix_names (mO1 tupleP (.ex (mLc (.nm 4) [4] (itSq (mO1 (attrP ix_tables) (.pl 0))) (mYes) (mO1 (attrP ix_name) (.pl 4))))))))))
def c_Query___init__ : FN := mkFn 7 true b_Query___init__
theorem ok_Query___init__ {P : Program} {w : World} {K : PySem.W.Frag} {mg : Str → Option Value} {base : Heap} {CA : Nat → Addr} {CM : Addr} {fI : Nat → Addr} {tt : List (Addr × Str)} (T : Txt P K mg CA CM fI tt) (Care_tables : Cal P w K mg base (ctx K CA tt) "are_tables" false 2 3 c_are_tables []) (Cis_listed : Cal P w K mg base (ctx K CA tt) "is_listed" false 1 2 c_is_listed []) (Cis_pair : Cal P w K mg base (ctx K CA tt) "is_pair" false 2 3 c_is_pair []) (Cby_names : Cal P w K mg base (ctx K CA tt) "by_names" false 1 2 c_by_names []) {f : Addr} {fd : FuncData} (F : Fun K "__init__" "Query.__init__" s_Query___init__ f fd) :
    FnOk P w K mg base (L2.CX P w) 5 f fd ["self", "tables", "pairs"] (SpF (ctx K CA tt) true 3 c_Query___init__) :=
  have ND := sc_Query___init__.nd
  have hK : (ctx K CA tt).K = K := rfl
  fn_ok F sc_Query___init__ (by decide) (fun _ => by decide) fun cdv A outer s H E hr tk =>
    dss_cons (ds_if (dt_not (dt_val (de_cal Care_tables hr (by decide) rfl tk (da_cons (de_v (pv 1)) (da_cons (T.c_MOST_TABLES rfl rfl) (da_nil))) rfl))) (dss_one (ds_raise rfl T.x_BadQuery rfl hr tk (de_str) T.g_BadQuery rfl)) (dss_nil))
    (dss_cons (ds_set ND rfl (.inr rfl) (de_dc2 (own := [("table", 4), ("column", 5)]) (vs1 := [5]) rfl ND (di_sqQ hK (de_v (pv 1))) (by rfl) (by decide) (fun _ _ _ _ _ => dg_nm ND rfl (.inl rfl)) (fun _ _ _ _ _ => dts_nil) (fun _ _ _ _ _ => di_sqQ hK (de_attr T.f_columns (pv 4))) (fun _ _ _ _ _ => dg_nm ND rfl (.inl rfl)) (fun _ _ _ _ _ => dts_nil) (fun _ _ _ _ _ => de_v (pv 5)) (fun _ _ _ _ _ => de_attr T.f_name (pv 4))))
    (dss_cons (ds_if (dt_w (dw_or (dt_not (dt_val (de_cal Cis_listed hr (by decide) rfl tk (da_cons (de_v (pv 2)) (da_nil)) rfl))) (dw_or1 (dt_not (dt_val (de_b1 (cr_all rfl) (allP_ok) rfl T.n_all (by decide +kernel) (de_lc (own := [("pair", 6)]) rfl ND (di_sqQ hK (de_v (pv 2))) (by rfl) (fun _ _ _ _ _ => dg_nm ND rfl (.inl rfl)) (fun _ _ _ _ _ => dts_nil) (fun _ _ _ _ _ => de_cal Cis_pair hr (by decide) rfl LamX.takes0 (da_cons (de_v (pv 6)) (da_cons (de_v (pv 3)) (da_nil))) rfl)))))))) (dss_one (ds_raise rfl T.x_BadQuery rfl hr tk (de_str) T.g_BadQuery rfl)) (dss_nil))
    (dss_cons (ds_fld T.f_tables T.fl (pv 0) (de_cal Cby_names hr (by decide) rfl tk (da_cons (de_v (pv 1)) (da_nil)) rfl))
    (dss_cons (ds_fld T.f_pairs T.fl (pv 0) (de_t1 call_tuple_of (tupleP_ok hK) rfl T.n_tuple (by decide +kernel) (de_lc (own := [("pair", 6)]) rfl ND (di_sqQ hK (de_v (pv 2))) (by rfl) (fun _ _ _ _ _ => dg_nm ND rfl (.inl rfl)) (fun _ _ _ _ _ => dts_nil) (fun _ _ _ _ _ => de_t1 call_tuple_of (tupleP_ok hK) rfl T.n_tuple (by decide +kernel) (pv 6)))))
    (dss_one (ds_fld T.f_names T.fl (pv 0) (de_t1 call_tuple_of (tupleP_ok hK) rfl T.n_tuple (by decide +kernel) (de_lc (own := [("table", 4)]) rfl ND (di_sqQ hK (de_attr T.f_tables (pv 0))) (by rfl) (fun _ _ _ _ _ => dg_nm ND rfl (.inl rfl)) (fun _ _ _ _ _ => dts_nil) (fun _ _ _ _ _ => de_attr T.f_name (pv 4))))))))))
/-! ### need_query -/
abbrev n_need_query : List Str := ["query"]
theorem sc_need_query : FnScope n_need_query ["query"] (defScope s_need_query) := ⟨rfl, rfl, rfl, by decide +kernel, rfl, by decide +kernel, by decide +kernel⟩
def b_need_query : MS :=
    mIfS (mNotT (mT (mO1 (isiP anc [0, 1] [.own 1]) (.pl 0)))) (mRaise 2 (mC (.str "query"))) (mNext)
def c_need_query : FN := mkFn 1 false b_need_query
theorem ok_need_query {P : Program} {w : World} {K : PySem.W.Frag} {mg : Str → Option Value} {base : Heap} {CA : Nat → Addr} {CM : Addr} {fI : Nat → Addr} {tt : List (Addr × Str)} (T : Txt P K mg CA CM fI tt)  {f : Addr} {fd : FuncData} (F : Fun K "need_query" "need_query" s_need_query f fd) :
    FnOk P w K mg base (L2.CX P w) 2 f fd ["query"] (SpF (ctx K CA tt) false 1 c_need_query) :=
  have ND := sc_need_query.nd
  have hK : (ctx K CA tt).K = K := rfl
  fn_ok F sc_need_query (by decide) (fun _ => by decide) fun cdv A outer s H E hr tk =>
    dss_one (ds_if (dt_not (dt_val (de_isi hK T.ins T.k_Query rfl T.n_isinstance (pv 0) (pe_cls rfl T.g_Query)))) (dss_one (ds_raise rfl T.x_BadQuery rfl hr tk (de_str) T.g_BadQuery rfl)) (dss_nil))
/-! ### names_in -/
abbrev n_names_in : List Str := ["value", "parts", "one"]
theorem sc_names_in : FnScope n_names_in ["value"] (defScope s_names_in) := ⟨rfl, rfl, rfl, by decide +kernel, rfl, by decide +kernel, by decide +kernel⟩
def b_names_in (cr : FN) : MS :=
    mSeq (mIfS (mT (mO1 (isiP anc [0, 1] [.str]) (.pl 0))) (mRet (mLst [mV 0])) (mNext))
    (mSeq (mIfS (mOrT (mNotT (mT (mCall c_is_listed [mV 0] []))) (mT (mO2 neP (.ex (mO1 lenP (.pl 0))) (.ex (mC (.int 2)))))) (mRet (mC .non)) (mNext))
    (mSeq (mSet 1 (mLc (.nm 2) [2] (itSq (mV 0)) (mYes) (mCall cr [mV 2] [])))
    (mRet (mIf (mT (mO2 (inDP false) (.ex (mC .non)) (.pl 1))) (mC .non) (mO2 addP (.ex (mO2 ixP (.pl 1) (.ex (mC (.int 0))))) (.ex (mO2 ixP (.pl 1) (.ex (mC (.int 1))))))))))
def c_names_in : Nat → FN
  | 0 => fun _ => .bad
  | n + 1 => mkFn 3 false (b_names_in (c_names_in n))
theorem ok_names_in {P : Program} {w : World} {K : PySem.W.Frag} {mg : Str → Option Value} {base : Heap} {CA : Nat → Addr} {CM : Addr} {fI : Nat → Addr} {tt : List (Addr × Str)} (T : Txt P K mg CA CM fI tt) (Cis_listed : Cal P w K mg base (ctx K CA tt) "is_listed" false 1 2 c_is_listed []) {f : Addr} {fd : FuncData} (F : Fun K "names_in" "names_in" s_names_in f fd) (hm : mg "names_in" = some (.ref f)) (hb : Binds K fd ["value"] []) :
    ∀ n : Nat, FnOk P w K mg base (L2.CX P w) (n + 2) f fd ["value"] (SpF (ctx K CA tt) false 1 (c_names_in n))
  | 0 => fn_bad
  | n + 1 =>
    have CR : Cal P w K mg base (ctx K CA tt) "names_in" false 1 (n + 2) (c_names_in n) [] := ⟨f, fd, _, [], [], ok_names_in T Cis_listed F hm hb n, hm, F.kp, hb, .nil, rfl, fun _ _ => .nil⟩
    have ND := sc_names_in.nd
    have hK : (ctx K CA tt).K = K := rfl
    fn_ok F sc_names_in (by decide) (fun _ => by decide) fun cdv A outer s H E hr tk =>
    dss_cons (ds_if (dt_val (de_isi hK T.ins T.k_str rfl T.n_isinstance (pv 0) (pe_ty rfl T.n_str (by decide +kernel)))) (dss_one (ds_ret (de_lst (da_cons (de_v (pv 0)) (da_nil))))) (dss_nil))
    (dss_cons (ds_if (dt_w (dw_or (dt_not (dt_val (de_cal Cis_listed hr (by omega) rfl tk (da_cons (de_v (pv 0)) (da_nil)) rfl))) (dw_or1 (dt_cmp (op_neD (un64 hr)) (neP_ok hK) (de_b1 call_len (lenP_ok hK) rfl T.n_len (by decide +kernel) (pv 0)) (de_int) (nomark _))))) (dss_one (ds_ret (de_non))) (dss_nil))
    (dss_cons (ds_setLc (own := [("one", 2)]) rfl ND rfl rfl (by rfl) (di_sqQ hK (de_v (pv 0))) (by rfl) (fun _ _ _ _ _ => dg_nm ND rfl (.inl rfl)) (fun _ _ _ _ _ => dts_nil) (fun _ _ _ _ _ => de_cal CR hr (Nat.le_refl _) rfl LamX.takes0 (da_cons (de_v (pv 2)) (da_nil)) rfl))
    (dss_one (ds_ret (de_if (dt_cmp (op_inD (un65 hr)) (inDP_ok hK) (de_non) (pv 1) (by with_unfolding_all rfl)) (de_non) (de_op op_addAll (addP_ok hK) (de_ix ix_seq (ixP_ok hK) (pv 1) (de_int)) (de_ix ix_seq (ixP_ok hK) (pv 1) (de_int))))))))
/-! ### is_order -/
abbrev n_is_order : List Str := ["query", "value", "found"]
theorem sc_is_order : FnScope n_is_order ["query", "value"] (defScope s_is_order) := ⟨rfl, rfl, rfl, by decide +kernel, rfl, by decide +kernel, by decide +kernel⟩
def b_is_order : MS :=
    mSeq (mSet 2 (mCall (c_names_in 10) [mV 1] []))
    (mRet (mAndV (mO2 isNotNP (.pl 2) (.ex (mC .non))) (mO2 eqP (.ex (mO1 sortQ (.pl 2))) (.ex (mO1 sortQ (.ex (mO1 (attrP ix_names) (.pl 0))))))))
def c_is_order : FN := mkFn 3 false b_is_order
theorem ok_is_order {P : Program} {w : World} {K : PySem.W.Frag} {mg : Str → Option Value} {base : Heap} {CA : Nat → Addr} {CM : Addr} {fI : Nat → Addr} {tt : List (Addr × Str)} (T : Txt P K mg CA CM fI tt) (Cnames_in : Cal P w K mg base (ctx K CA tt) "names_in" false 1 12 (c_names_in 10) []) {f : Addr} {fd : FuncData} (F : Fun K "is_order" "is_order" s_is_order f fd) :
    FnOk P w K mg base (L2.CX P w) 13 f fd ["query", "value"] (SpF (ctx K CA tt) false 2 c_is_order) :=
  have ND := sc_is_order.nd
  have hK : (ctx K CA tt).K = K := rfl
  fn_ok F sc_is_order (by decide) (fun _ => by decide) fun cdv A outer s H E hr tk =>
    dss_cons (ds_set ND rfl (.inl rfl) (de_cal Cnames_in hr (by decide) rfl tk (da_cons (de_v (pv 1)) (da_nil)) rfl))
    (dss_one (ds_ret (de_and (de_cmp (op_notN) (isNotNP_ok) (pv 2) (de_non) (nomark _)) (de_one (de_cmp (op_eqD (un64 hr)) (eqP_ok hK) (de_b1 cr_sortQ (sortQ_ok hK) rfl T.n_sorted (by decide +kernel) (pv 2)) (de_b1 cr_sortQ (sortQ_ok hK) rfl T.n_sorted (by decide +kernel) (de_attr T.f_names (pv 0))) (nomark _))))))
/-! ### need_order -/
abbrev n_need_order : List Str := ["query", "order"]
theorem sc_need_order : FnScope n_need_order ["query", "order"] (defScope s_need_order) := ⟨rfl, rfl, rfl, by decide +kernel, rfl, by decide +kernel, by decide +kernel⟩
def b_need_order : MS :=
    mIfS (mNotT (mT (mCall c_is_order [mV 0, mV 1] []))) (mRaise 3 (mC (.str "order"))) (mNext)
def c_need_order : FN := mkFn 2 false b_need_order
theorem ok_need_order {P : Program} {w : World} {K : PySem.W.Frag} {mg : Str → Option Value} {base : Heap} {CA : Nat → Addr} {CM : Addr} {fI : Nat → Addr} {tt : List (Addr × Str)} (T : Txt P K mg CA CM fI tt) (Cis_order : Cal P w K mg base (ctx K CA tt) "is_order" false 2 13 c_is_order []) {f : Addr} {fd : FuncData} (F : Fun K "need_order" "need_order" s_need_order f fd) :
    FnOk P w K mg base (L2.CX P w) 14 f fd ["query", "order"] (SpF (ctx K CA tt) false 2 c_need_order) :=
  have ND := sc_need_order.nd
  have hK : (ctx K CA tt).K = K := rfl
  fn_ok F sc_need_order (by decide) (fun _ => by decide) fun cdv A outer s H E hr tk =>
    dss_one (ds_if (dt_not (dt_val (de_cal Cis_order hr (by decide) rfl tk (da_cons (de_v (pv 0)) (da_cons (de_v (pv 1)) (da_nil))) rfl))) (dss_one (ds_raise rfl T.x_BadOrder rfl hr tk (de_str) T.g_BadOrder rfl)) (dss_nil))
/-! ### lots_of -/
abbrev n_lots_of : List Str := ["order"]
theorem sc_lots_of : FnScope n_lots_of ["order"] (defScope s_lots_of) := ⟨rfl, rfl, rfl, by decide +kernel, rfl, by decide +kernel, by decide +kernel⟩
def b_lots_of (cr : FN) : MS :=
    mSeq (mIfS (mT (mO1 (isiP anc [0, 1] [.str]) (.pl 0))) (mRet (mLst [])) (mNext))
    (mRet (mO2 addP (.ex (mO2 addP (.ex (mCall cr [mO2 ixP (.pl 0) (.ex (mC (.int 0)))] [])) (.ex (mCall cr [mO2 ixP (.pl 0) (.ex (mC (.int 1)))] [])))) (.ex (mLst [mO1 tupleP (.ex (mO1 sortQ (.ex (mCall (c_names_in 10) [mV 0] []))))]))))
def c_lots_of : Nat → FN
  | 0 => fun _ => .bad
  | n + 1 => mkFn 1 false (b_lots_of (c_lots_of n))
theorem ok_lots_of {P : Program} {w : World} {K : PySem.W.Frag} {mg : Str → Option Value} {base : Heap} {CA : Nat → Addr} {CM : Addr} {fI : Nat → Addr} {tt : List (Addr × Str)} (T : Txt P K mg CA CM fI tt) (Cnames_in : Cal P w K mg base (ctx K CA tt) "names_in" false 1 12 (c_names_in 10) []) {f : Addr} {fd : FuncData} (F : Fun K "lots_of" "lots_of" s_lots_of f fd) (hm : mg "lots_of" = some (.ref f)) (hb : Binds K fd ["order"] []) :
    ∀ n : Nat, FnOk P w K mg base (L2.CX P w) (n + 12) f fd ["order"] (SpF (ctx K CA tt) false 1 (c_lots_of n))
  | 0 => fn_bad
  | n + 1 =>
    have CR : Cal P w K mg base (ctx K CA tt) "lots_of" false 1 (n + 12) (c_lots_of n) [] := ⟨f, fd, _, [], [], ok_lots_of T Cnames_in F hm hb n, hm, F.kp, hb, .nil, rfl, fun _ _ => .nil⟩
    have ND := sc_lots_of.nd
    have hK : (ctx K CA tt).K = K := rfl
    fn_ok F sc_lots_of (by decide) (fun _ => by decide) fun cdv A outer s H E hr tk =>
    dss_cons (ds_if (dt_val (de_isi hK T.ins T.k_str rfl T.n_isinstance (pv 0) (pe_ty rfl T.n_str (by decide +kernel)))) (dss_one (ds_ret (de_lst (da_nil)))) (dss_nil))
    (dss_one (ds_ret (de_op op_addAll (addP_ok hK) (de_op op_addAll (addP_ok hK) (de_cal CR hr (Nat.le_refl _) rfl tk (da_cons (de_ix ix_seq (ixP_ok hK) (pv 0) (de_int)) (da_nil)) rfl) (de_cal CR hr (Nat.le_refl _) rfl tk (da_cons (de_ix ix_seq (ixP_ok hK) (pv 0) (de_int)) (da_nil)) rfl)) (de_lst (da_cons (de_t1 call_tuple_of (tupleP_ok hK) rfl T.n_tuple (by decide +kernel) (de_b1 cr_sortQ (sortQ_ok hK) rfl T.n_sorted (by decide +kernel) (de_cal Cnames_in hr (by omega) rfl tk (da_cons (de_v (pv 0)) (da_nil)) rfl))) (da_nil))))))
/-! ### is_chained -/
abbrev n_is_chained : List Str := ["order"]
theorem sc_is_chained : FnScope n_is_chained ["order"] (defScope s_is_chained) := ⟨rfl, rfl, rfl, by decide +kernel, rfl, by decide +kernel, by decide +kernel⟩
def b_is_chained (cr : FN) : MS :=
    mRet (mOrV (mO1 (isiP anc [0, 1] [.str]) (.pl 0)) (mAndV (mO1 (isiP anc [0, 1] [.str]) (.ex (mO2 ixP (.pl 0) (.ex (mC (.int 1)))))) (mCall cr [mO2 ixP (.pl 0) (.ex (mC (.int 0)))] [])))
def c_is_chained : Nat → FN
  | 0 => fun _ => .bad
  | n + 1 => mkFn 1 false (b_is_chained (c_is_chained n))
theorem ok_is_chained {P : Program} {w : World} {K : PySem.W.Frag} {mg : Str → Option Value} {base : Heap} {CA : Nat → Addr} {CM : Addr} {fI : Nat → Addr} {tt : List (Addr × Str)} (T : Txt P K mg CA CM fI tt)  {f : Addr} {fd : FuncData} (F : Fun K "is_chained" "is_chained" s_is_chained f fd) (hm : mg "is_chained" = some (.ref f)) (hb : Binds K fd ["order"] []) :
    ∀ n : Nat, FnOk P w K mg base (L2.CX P w) (n + 1) f fd ["order"] (SpF (ctx K CA tt) false 1 (c_is_chained n))
  | 0 => fn_bad
  | n + 1 =>
    have CR : Cal P w K mg base (ctx K CA tt) "is_chained" false 1 (n + 1) (c_is_chained n) [] := ⟨f, fd, _, [], [], ok_is_chained T  F hm hb n, hm, F.kp, hb, .nil, rfl, fun _ _ => .nil⟩
    have ND := sc_is_chained.nd
    have hK : (ctx K CA tt).K = K := rfl
    fn_ok F sc_is_chained (by decide) (fun _ => by decide) fun cdv A outer s H E hr tk =>
    dss_one (ds_ret (de_or (de_isi hK T.ins T.k_str rfl T.n_isinstance (pv 0) (pe_ty rfl T.n_str (by decide +kernel))) (de_one (de_and (de_isi hK T.ins T.k_str rfl T.n_isinstance (de_ix ix_seq (ixP_ok hK) (pv 0) (de_int)) (pe_ty rfl T.n_str (by decide +kernel))) (de_one (de_cal CR hr (Nat.le_refl _) rfl tk (da_cons (de_ix ix_seq (ixP_ok hK) (pv 0) (de_int)) (da_nil)) rfl))))))
/-! ### steps_of -/
abbrev n_steps_of : List Str := ["query", "order"]
theorem sc_steps_of : FnScope n_steps_of ["query", "order"] (defScope s_steps_of) := ⟨rfl, rfl, rfl, by decide +kernel, rfl, by decide +kernel, by decide +kernel⟩
def b_steps_of : MS :=
    mSeq (mExpr (mCall c_need_query [mV 0] []))
    (mSeq (mExpr (mCall c_need_order [mV 0, mV 1] []))
    (mRet (mO1 tupleP (.ex (mCall (c_lots_of 10) [mV 1] [])))))
def c_steps_of : FN := mkFn 2 false b_steps_of
theorem ok_steps_of {P : Program} {w : World} {K : PySem.W.Frag} {mg : Str → Option Value} {base : Heap} {CA : Nat → Addr} {CM : Addr} {fI : Nat → Addr} {tt : List (Addr × Str)} (T : Txt P K mg CA CM fI tt) (Cneed_query : Cal P w K mg base (ctx K CA tt) "need_query" false 1 2 c_need_query []) (Cneed_order : Cal P w K mg base (ctx K CA tt) "need_order" false 2 14 c_need_order []) (Clots_of : Cal P w K mg base (ctx K CA tt) "lots_of" false 1 22 (c_lots_of 10) []) {f : Addr} {fd : FuncData} (F : Fun K "steps_of" "steps_of" s_steps_of f fd) :
    FnOk P w K mg base (L2.CX P w) 23 f fd ["query", "order"] (SpF (ctx K CA tt) false 2 c_steps_of) :=
  have ND := sc_steps_of.nd
  have hK : (ctx K CA tt).K = K := rfl
  fn_ok F sc_steps_of (by decide) (fun _ => by decide) fun cdv A outer s H E hr tk =>
    dss_cons (ds_expr (de_cal Cneed_query hr (by decide) rfl tk (da_cons (de_v (pv 0)) (da_nil)) rfl))
    (dss_cons (ds_expr (de_cal Cneed_order hr (by decide) rfl tk (da_cons (de_v (pv 0)) (da_cons (de_v (pv 1)) (da_nil))) rfl))
    (dss_one (ds_ret (de_t1 call_tuple_of (tupleP_ok hK) rfl T.n_tuple (by decide +kernel) (de_cal Clots_of hr (by decide) rfl tk (da_cons (de_v (pv 1)) (da_nil)) rfl)))))
/-! ### is_chain -/
abbrev n_is_chain : List Str := ["query", "order"]
theorem sc_is_chain : FnScope n_is_chain ["query", "order"] (defScope s_is_chain) := ⟨rfl, rfl, rfl, by decide +kernel, rfl, by decide +kernel, by decide +kernel⟩
def b_is_chain : MS :=
    mSeq (mExpr (mCall c_need_query [mV 0] []))
    (mSeq (mExpr (mCall c_need_order [mV 0, mV 1] []))
    (mRet (mCall (c_is_chained 10) [mV 1] [])))
def c_is_chain : FN := mkFn 2 false b_is_chain
theorem ok_is_chain {P : Program} {w : World} {K : PySem.W.Frag} {mg : Str → Option Value} {base : Heap} {CA : Nat → Addr} {CM : Addr} {fI : Nat → Addr} {tt : List (Addr × Str)} (T : Txt P K mg CA CM fI tt) (Cneed_query : Cal P w K mg base (ctx K CA tt) "need_query" false 1 2 c_need_query []) (Cneed_order : Cal P w K mg base (ctx K CA tt) "need_order" false 2 14 c_need_order []) (Cis_chained : Cal P w K mg base (ctx K CA tt) "is_chained" false 1 11 (c_is_chained 10) []) {f : Addr} {fd : FuncData} (F : Fun K "is_chain" "is_chain" s_is_chain f fd) :
    FnOk P w K mg base (L2.CX P w) 23 f fd ["query", "order"] (SpF (ctx K CA tt) false 2 c_is_chain) :=
  have ND := sc_is_chain.nd
  have hK : (ctx K CA tt).K = K := rfl
  fn_ok F sc_is_chain (by decide) (fun _ => by decide) fun cdv A outer s H E hr tk =>
    dss_cons (ds_expr (de_cal Cneed_query hr (by decide) rfl tk (da_cons (de_v (pv 0)) (da_nil)) rfl))
    (dss_cons (ds_expr (de_cal Cneed_order hr (by decide) rfl tk (da_cons (de_v (pv 0)) (da_cons (de_v (pv 1)) (da_nil))) rfl))
    (dss_one (ds_ret (de_cal Cis_chained hr (by decide) rfl tk (da_cons (de_v (pv 1)) (da_nil)) rfl))))
/-! ### _law_pen -/
abbrev n__law_pen : List Str := ["script"]
theorem sc__law_pen : FnScope n__law_pen ["script"] (defScope s__law_pen) := ⟨rfl, rfl, rfl, by decide +kernel, rfl, by decide +kernel, by decide +kernel⟩
def b__law_pen : MS :=
    mRet (mDct [(mC (.str "row"), mSl (.ex (mO1 listP (.pl 0))) none (some (mC (.int 70)))), (mC (.str "at"), mC (.int 0)), (mC (.str "rest"), mC (.int 0))])
def c__law_pen : FN := mkFn 1 false b__law_pen
theorem ok__law_pen {P : Program} {w : World} {K : PySem.W.Frag} {mg : Str → Option Value} {base : Heap} {CA : Nat → Addr} {CM : Addr} {fI : Nat → Addr} {tt : List (Addr × Str)} (T : Txt P K mg CA CM fI tt)  {f : Addr} {fd : FuncData} (F : Fun K "_law_pen" "_law_pen" s__law_pen f fd) :
    FnOk P w K mg base (L2.CX P w) 2 f fd ["script"] (SpF (ctx K CA tt) false 1 c__law_pen) :=
  have ND := sc__law_pen.nd
  have hK : (ctx K CA tt).K = K := rfl
  fn_ok F sc__law_pen (by decide) (fun _ => by decide) fun cdv A outer s H E hr tk =>
    dss_one (ds_ret (de_dct (dps_cons (de_str) (de_slice hK (de_t1 call_list_of (listP_all hK) rfl T.n_list (by decide +kernel) (pv 0)) dpo_none (dpo_some (de_int))) (dps_cons (de_str) (de_int) (dps_cons (de_str) (de_int) (dps_nil))))))
/-! ### _law_draw -/
abbrev n__law_draw : List Str := ["pen", "most", "cell", "at", "row", "number", "great", "mixed"]
theorem sc__law_draw : FnScope n__law_draw ["pen", "most"] (defScope s__law_draw) := ⟨rfl, rfl, rfl, by decide +kernel, rfl, by decide +kernel, by decide +kernel⟩
def b__law_draw : MS :=
    mSeq (mIfS (mT (mO2 (cmpP fun i j => decide (j < i)) (.ex (mO2 dgetP (.pl 0) (.ex (mC (.str "rest"))))) (.ex (mC (.int 0))))) (mSeq (mSet 2 (mO2 modP (.ex (mO1 int1P (.ex (mO2 dgetP (.pl 0) (.ex (mC (.str "rest"))))))) (.pl 1)))
    (mSeq (mSub 0 (mC (.str "rest")) (mO2 divP (.ex (mO1 int1P (.ex (mO2 dgetP (.pl 0) (.ex (mC (.str "rest"))))))) (.pl 1)))
    (mRet (mMv 2)))) (mNext))
    (mSeq (mPar 3 4 (mO2 dgetP (.pl 0) (.ex (mC (.str "at")))) (mO2 dgetP (.pl 0) (.ex (mC (.str "row")))))
    (mSeq (mSub 0 (mC (.str "at")) (mO2 addP (.pl 3) (.ex (mC (.int 1)))))
    (mSeq (mSet 2 (mIf (mT (mO2 neP (.pl 4) (.ex (mLst [])))) (mO2 ixP (.pl 4) (.ex (mO2 modP (.pl 3) (.ex (mO1 lenP (.pl 4)))))) (mO2 mulP (.ex (mC (.int 6121))) (.ex (mO2 addP (.pl 3) (.ex (mC (.int 3))))))))
    (mSeq (mSet 5 (mIf (mAndT (mT (mO1 (isiP anc [0, 1] [.int]) (.pl 2))) (mNotT (mT (mO1 (isiP anc [0, 1] [.bool]) (.pl 2))))) (mV 2) (mC (.int 0))))
    (mSeq (mIfS (mAndT (mT (mO2 ltP (.pl 3) (.ex (mO1 lenP (.pl 4))))) (mT (mO2 (cmpP fun i j => decide (j ≤ i)) (.ex (mO1 absP (.pl 5))) (.ex (mO2 powP (.ex (mC (.int 10))) (.ex (mC (.int 18)))))))) (mSeq (mSet 6 (mO2 addP (.ex (mO2 mulP (.ex (mC (.int 2))) (.ex (mO2 subP (.ex (mO1 absP (.pl 5))) (.ex (mO2 powP (.ex (mC (.int 10))) (.ex (mC (.int 18))))))))) (.ex (mO1 int1P (.ex (mO2 ltP (.pl 5) (.ex (mC (.int 0)))))))))
    (mSeq (mSub 0 (mC (.str "rest")) (mO2 divP (.ex (mO1 int1P (.pl 6))) (.pl 1)))
    (mRet (mO2 modP (.ex (mO1 int1P (.pl 6))) (.pl 1))))) (mNext))
    (mSeq (mSet 7 (mO2 addP (.ex (mO2 mulP (.ex (mO2 addP (.ex (mO2 modP (.ex (mO1 int1P (.ex (mO1 absP (.pl 5))))) (.ex (mC (.int 7919))))) (.ex (mO2 mulP (.ex (mC (.int 6121))) (.ex (mO2 addP (.pl 3) (.ex (mC (.int 1))))))))) (.ex (mO2 addP (.pl 3) (.ex (mC (.int 11))))))) (.ex (mC (.int 7)))))
    (mRet (mO2 modP (.ex (mO1 int1P (.ex (mO2 divP (.ex (mO2 mulP (.pl 7) (.pl 7))) (.ex (mC (.int 13))))))) (.pl 1)))))))))
def c__law_draw : FN := mkFn 8 true b__law_draw
theorem ok__law_draw {P : Program} {w : World} {K : PySem.W.Frag} {mg : Str → Option Value} {base : Heap} {CA : Nat → Addr} {CM : Addr} {fI : Nat → Addr} {tt : List (Addr × Str)} (T : Txt P K mg CA CM fI tt)  {f : Addr} {fd : FuncData} (F : Fun K "_law_draw" "_law_draw" s__law_draw f fd) :
    FnOk P w K mg base (L2.CX P w) 2 f fd ["pen", "most"] (SpF (ctx K CA tt) true 2 c__law_draw) :=
  have ND := sc__law_draw.nd
  have hK : (ctx K CA tt).K = K := rfl
  fn_ok F sc__law_draw (by decide) (fun _ => by decide) fun cdv A outer s H E hr tk =>
    dss_cons (ds_if (dt_cmp (op_gt) (cmpP_ok) (de_dget (un1 hr) (pv 0) (de_str)) (de_int) (nomark _)) (dss_cons (ds_set ND rfl (.inl rfl) (de_op op_modN (modP_ok) (de_t1 call_int1 (int1P_ok) rfl T.n_int (by decide +kernel) (de_dget (un1 hr) (pv 0) (de_str))) (pv 1)))
    (dss_cons (ds_sub (un1 hr) (pv 0) (de_str) (de_op op_fdivN (divP_ok) (de_t1 call_int1 (int1P_ok) rfl T.n_int (by decide +kernel) (de_dget (un1 hr) (pv 0) (de_str))) (pv 1)))
    (dss_one (ds_ret (de_mv (pv 2)))))) (dss_nil))
    (dss_cons (ds_par rfl ND rfl rfl (by decide) rfl rfl (de_dget (un1 hr) (pv 0) (de_str)) (de_dget (un1 hr) (pv 0) (de_str)))
    (dss_cons (ds_sub (un1 hr) (pv 0) (de_str) (de_op op_addAll (addP_ok hK) (pv 3) (de_int)))
    (dss_cons (ds_set ND rfl (.inl rfl) (de_if (dt_cmp (op_neD (un64 hr)) (neP_ok hK) (pv 4) (de_lst (da_nil)) (nomark _)) (de_ix ix_seq (ixP_ok hK) (pv 4) (de_op op_modN (modP_ok) (pv 3) (de_b1 call_len (lenP_ok hK) rfl T.n_len (by decide +kernel) (pv 4)))) (de_op op_mul (mulP_ok) (de_int) (de_op op_addAll (addP_ok hK) (pv 3) (de_int)))))
    (dss_cons (ds_set ND rfl (.inl rfl) (de_if (dt_w (dw_and (dt_val (de_isi hK T.ins T.k_int rfl T.n_isinstance (pv 2) (pe_ty rfl T.n_int (by decide +kernel)))) (dw_and1 (dt_not (dt_val (de_isi hK T.ins T.k_bool rfl T.n_isinstance (pv 2) (pe_ty rfl T.n_bool (by decide +kernel)))))))) (de_v (pv 2)) (de_int)))
    (dss_cons (ds_if (dt_w (dw_and (dt_cmp (op_ltAll) (ltP_ok) (pv 3) (de_b1 call_len (lenP_ok hK) rfl T.n_len (by decide +kernel) (pv 4)) (nomark _)) (dw_and1 (dt_cmp (op_ge) (cmpP_ok) (de_b1 call_abs (absP_ok) rfl T.n_abs (by decide +kernel) (pv 5)) (de_op op_pow (powP_ok) (de_int) (de_int)) (nomark _))))) (dss_cons (ds_set ND rfl (.inl rfl) (de_op op_addAll (addP_ok hK) (de_op op_mul (mulP_ok) (de_int) (de_op op_sub (intP0_ok) (de_b1 call_abs (absP_ok) rfl T.n_abs (by decide +kernel) (pv 5)) (de_op op_pow (powP_ok) (de_int) (de_int)))) (de_t1 call_int1 (int1P_ok) rfl T.n_int (by decide +kernel) (de_cmp (op_ltAll) (ltP_ok) (pv 5) (de_int) (nomark _)))))
    (dss_cons (ds_sub (un1 hr) (pv 0) (de_str) (de_op op_fdivN (divP_ok) (de_t1 call_int1 (int1P_ok) rfl T.n_int (by decide +kernel) (pv 6)) (pv 1)))
    (dss_one (ds_ret (de_op op_modN (modP_ok) (de_t1 call_int1 (int1P_ok) rfl T.n_int (by decide +kernel) (pv 6)) (pv 1)))))) (dss_nil))
    (dss_cons (ds_set ND rfl (.inl rfl) (de_op op_addAll (addP_ok hK) (de_op op_mul (mulP_ok) (de_op op_addAll (addP_ok hK) (de_op op_modN (modP_ok) (de_t1 call_int1 (int1P_ok) rfl T.n_int (by decide +kernel) (de_b1 call_abs (absP_ok) rfl T.n_abs (by decide +kernel) (pv 5))) (de_int)) (de_op op_mul (mulP_ok) (de_int) (de_op op_addAll (addP_ok hK) (pv 3) (de_int)))) (de_op op_addAll (addP_ok hK) (pv 3) (de_int))) (de_int)))
    (dss_one (ds_ret (de_op op_modN (modP_ok) (de_t1 call_int1 (int1P_ok) rfl T.n_int (by decide +kernel) (de_op op_fdivN (divP_ok) (de_op op_mul (mulP_ok) (pv 7) (pv 7)) (de_int))) (pv 1))))))))))
/-! ### _law_pick -/
abbrev n__law_pick : List Str := ["pen", "some"]
theorem sc__law_pick : FnScope n__law_pick ["pen", "some"] (defScope s__law_pick) := ⟨rfl, rfl, rfl, by decide +kernel, rfl, by decide +kernel, by decide +kernel⟩
def b__law_pick : MS :=
    mRet (mO2 ixP (.pl 1) (.ex (mCallIO c__law_draw 0 [mO1 lenP (.pl 1)] [])))
def c__law_pick : FN := mkFn 2 true b__law_pick
theorem ok__law_pick {P : Program} {w : World} {K : PySem.W.Frag} {mg : Str → Option Value} {base : Heap} {CA : Nat → Addr} {CM : Addr} {fI : Nat → Addr} {tt : List (Addr × Str)} (T : Txt P K mg CA CM fI tt) (C_law_draw : Cal P w K mg base (ctx K CA tt) "_law_draw" true 2 2 c__law_draw []) {f : Addr} {fd : FuncData} (F : Fun K "_law_pick" "_law_pick" s__law_pick f fd) :
    FnOk P w K mg base (L2.CX P w) 3 f fd ["pen", "some"] (SpF (ctx K CA tt) true 2 c__law_pick) :=
  have ND := sc__law_pick.nd
  have hK : (ctx K CA tt).K = K := rfl
  fn_ok F sc__law_pick (by decide) (fun _ => by decide) fun cdv A outer s H E hr tk =>
    dss_one (ds_ret (de_ix ix_seq (ixP_ok hK) (pv 1) (de_calIO C_law_draw hr (by decide) rfl tk (pv 0) (da_cons (de_b1 call_len (lenP_ok hK) rfl T.n_len (by decide +kernel) (pv 1)) (da_nil)) rfl)))
/-! ### _law_words -/
abbrev n__law_words : List Str := ["pen", "many", "letters", "rest", "spot", "start", "hop"]
theorem sc__law_words : FnScope n__law_words ["pen", "many"] (defScope s__law_words) := ⟨rfl, rfl, rfl, by decide +kernel, rfl, by decide +kernel, by decide +kernel⟩
def b__law_words : MS :=
    mSeq (mSet 2 (mC (.str "abcdefghijklmnopqrstuvwxyz")))
    (mSeq (mSet 3 (mJoin (mC (.str "")) (.ex (mLc (.nm 4) [4] (mRg1 (mCallIO c__law_pick 0 [mLst [mC (.int 0), mC (.int 0), mC (.int 1), mC (.int 7)]] [])) (mYes) (mCallIO c__law_pick 0 [mV 2] [])))))
    (mSeq (mUn (.tp [.nm 5, .nm 6]) (mTup [mCallIO c__law_draw 0 [mC (.int 26)] [], mCallIO c__law_pick 0 [mLst [mC (.int 1), mC (.int 3), mC (.int 5), mC (.int 7), mC (.int 9), mC (.int 11)]] []]))
    (mRet (mLc (.nm 4) [4] (mRg1 (mV 1)) (mYes) (mO2 addP (.ex (mO2 ixP (.pl 2) (.ex (mO2 modP (.ex (mO1 int1P (.ex (mO2 addP (.pl 5) (.ex (mO2 mulP (.pl 6) (.pl 4))))))) (.ex (mC (.int 26))))))) (.pl 3))))))
def c__law_words : FN := mkFn 7 true b__law_words
theorem ok__law_words {P : Program} {w : World} {K : PySem.W.Frag} {mg : Str → Option Value} {base : Heap} {CA : Nat → Addr} {CM : Addr} {fI : Nat → Addr} {tt : List (Addr × Str)} (T : Txt P K mg CA CM fI tt) (C_law_pick : Cal P w K mg base (ctx K CA tt) "_law_pick" true 2 3 c__law_pick []) (C_law_draw : Cal P w K mg base (ctx K CA tt) "_law_draw" true 2 2 c__law_draw []) {f : Addr} {fd : FuncData} (F : Fun K "_law_words" "_law_words" s__law_words f fd) :
    FnOk P w K mg base (L2.CX P w) 4 f fd ["pen", "many"] (SpF (ctx K CA tt) true 2 c__law_words) :=
  have ND := sc__law_words.nd
  have hK : (ctx K CA tt).K = K := rfl
  fn_ok F sc__law_words (by decide) (fun _ => by decide) fun cdv A outer s H E hr tk =>
    dss_cons (ds_set ND rfl (.inr rfl) (de_str))
    (dss_cons (ds_set ND rfl (.inr rfl) (de_join (de_str) (de_lc (own := [("spot", 4)]) rfl ND (di_rg1 rfl T.n_range (de_calIO C_law_pick hr (by decide) rfl tk (pv 0) (da_cons (de_lst (da_cons (de_int) (da_cons (de_int) (da_cons (de_int) (da_cons (de_int) (da_nil)))))) (da_nil)) rfl)) (by rfl) (fun _ _ _ _ _ => dg_nm ND rfl (.inl rfl)) (fun _ _ _ _ _ => dts_nil) (fun _ _ _ _ _ => de_calIO C_law_pick hr (by decide) rfl LamX.takes0 (pv 0) (da_cons (de_v (pv 2)) (da_nil)) rfl))))
    (dss_cons (ds_un (de_tup (da_cons (de_calIO C_law_draw hr (by decide) rfl tk (pv 0) (da_cons (de_int) (da_nil)) rfl) (da_cons (de_calIO C_law_pick hr (by decide) rfl tk (pv 0) (da_cons (de_lst (da_cons (de_int) (da_cons (de_int) (da_cons (de_int) (da_cons (de_int) (da_cons (de_int) (da_cons (de_int) (da_nil)))))))) (da_nil)) rfl) (da_nil)))) (dg_tp hK rfl (dgs_cons (dg_nm ND rfl (.inr rfl)) (dgs_cons (dg_nm ND rfl (.inr rfl)) (dgs_nil)))))
    (dss_one (ds_ret (de_lc (own := [("spot", 4)]) rfl ND (di_rg1 rfl T.n_range (de_v (pv 1))) (by rfl) (fun _ _ _ _ _ => dg_nm ND rfl (.inl rfl)) (fun _ _ _ _ _ => dts_nil) (fun _ _ _ _ _ => de_op op_addAll (addP_ok hK) (de_ix ix_seq (ixP_ok hK) (pv 2) (de_op op_modN (modP_ok) (de_t1 call_int1 (int1P_ok) rfl T.n_int (by decide +kernel) (de_op op_addAll (addP_ok hK) (pv 5) (de_op op_mul (mulP_ok) (pv 6) (pv 4)))) (de_int))) (pv 3)))))))
/-! ### _law_plain -/
abbrev n__law_plain : List Str := ["pen", "most", "wide", "many", "names", "columns", "classes", "tables", "seen", "pairs", "at", "own", "spot", "unique", "column", "others", "one"]
theorem sc__law_plain : FnScope n__law_plain ["pen", "most", "wide"] (defScope s__law_plain) := ⟨rfl, rfl, rfl, by decide +kernel, rfl, by decide +kernel, by decide +kernel⟩
def b__law_plain : MS :=
    mSeq (mSet 3 (mO2 addP (.ex (mC (.int 1))) (.ex (mCallIO c__law_draw 0 [mV 1] []))))
    (mSeq (mParL [4, 5, 6] [mCallIO c__law_words 0 [mV 3] [], mCallIO c__law_words 0 [mC (.int 20)] [], mO2 addP (.ex (mC (.int 1))) (.ex (mCallIO c__law_draw 0 [mC (.int 4)] []))])
    (mSeq (mParL [7, 8, 9] [mLst [], mDct0, mLst []])
    (mSeq (mFor (.nm 10) (mRg1 (mV 3))
    (mSeq (mSet 11 (mLc (.nm 12) [12] (mRg1 (mO2 addP (.ex (mC (.int 1))) (.ex (mCallIO c__law_draw 0 [mV 2] [])))) (mYes) (mMt 5 popP [])))
    (mSeq (mSet 13 (mLc (.nm 14) [14] (itSq (mV 11)) (mT (mO2 eqP (.ex (mCallIO c__law_draw 0 [mC (.int 3)] [])) (.ex (mC (.int 0))))) (mV 14)))
    (mSeq (mExpr (mMt 7 appendP [mTup [mO2 ixP (.pl 4) (.pl 10), mV 11, mV 13, mCallIO c__law_pick 0 [mLst [mC (.str "heap"), mC (.str "set"), mC (.str "set")]] []]]))
    (mFor (.nm 14) (itSq (mV 11))
    (mSeq (mSet 12 (mCallIO c__law_draw 0 [mV 6] []))
    (mSeq (mSet 15 (mLc (.nm 16) [16] (itSq (mGet (.pl 8) (.pl 12) (mLst []))) (mT (mO2 (inP true) (.pl 16) (.pl 11))) (mV 16)))
    (mSeq (mIfS (mAndT (mT (mO2 neP (.pl 15) (.ex (mLst [])))) (mT (mO2 (cmpP fun i j => decide (j < i)) (.ex (mCallIO c__law_draw 0 [mC (.int 6)] [])) (.ex (mC (.int 0)))))) (mExpr (mMt 9 appendP [mCallIO c__law_pick 0 [mLst [mTup [mV 14, mO2 ixP (.pl 15) (.ex (mO1 negP (.ex (mC (.int 1)))))], mTup [mO2 ixP (.pl 15) (.ex (mC (.int 0))), mV 14]]] []])) (mNext))
    (mSub 8 (mV 12) (mO2 addP (.ex (mGet (.pl 8) (.pl 12) (mLst []))) (.ex (mLst [mV 14]))))))))))))
    (mRet (mDct [(mC (.str "tables"), mV 7), (mC (.str "pairs"), mV 9)])))))
def c__law_plain : FN := mkFn 17 true b__law_plain
theorem ok__law_plain {P : Program} {w : World} {K : PySem.W.Frag} {mg : Str → Option Value} {base : Heap} {CA : Nat → Addr} {CM : Addr} {fI : Nat → Addr} {tt : List (Addr × Str)} (T : Txt P K mg CA CM fI tt) (C_law_draw : Cal P w K mg base (ctx K CA tt) "_law_draw" true 2 2 c__law_draw []) (C_law_words : Cal P w K mg base (ctx K CA tt) "_law_words" true 2 4 c__law_words []) (C_law_pick : Cal P w K mg base (ctx K CA tt) "_law_pick" true 2 3 c__law_pick []) {f : Addr} {fd : FuncData} (F : Fun K "_law_plain" "_law_plain" s__law_plain f fd) :
    FnOk P w K mg base (L2.CX P w) 5 f fd ["pen", "most", "wide"] (SpF (ctx K CA tt) true 3 c__law_plain) :=
  have ND := sc__law_plain.nd
  have hK : (ctx K CA tt).K = K := rfl
  fn_ok F sc__law_plain (by decide) (fun _ => by decide) fun cdv A outer s H E hr tk =>
    dss_cons (ds_set ND rfl (.inl rfl) (de_op op_addAll (addP_ok hK) (de_int) (de_calIO C_law_draw hr (by decide) rfl tk (pv 0) (da_cons (de_v (pv 1)) (da_nil)) rfl)))
    (dss_cons (ds_parC3 hK rfl (gname ND rfl (.inl rfl)) (gname ND rfl (.inr rfl)) (gname ND rfl (.inl rfl)) (by decide) (by decide) (by decide) (dao_cons (de_calIO C_law_words hr (by decide) rfl tk (pv 0) (da_cons (de_v (pv 3)) (da_nil)) rfl) (dao_cons (de_calIO C_law_words hr (by decide) rfl tk (pv 0) (da_cons (de_int) (da_nil)) rfl) (dao_cons (de_op op_addAll (addP_ok hK) (de_int) (de_calIO C_law_draw hr (by decide) rfl tk (pv 0) (da_cons (de_int) (da_nil)) rfl)) (dao_nil)))))
    (dss_cons (ds_par3 rfl ND rfl rfl rfl (by decide) (by decide) (by decide) rfl rfl rfl (dao_cons (de_lst (da_nil)) (dao_cons (de_dct0) (dao_cons (de_lst (da_nil)) (dao_nil)))))
    (dss_cons (ds_for (passes_of rfl) rfl (di_rg1 rfl T.n_range (de_v (pv 3))) (dg_nm ND rfl (.inl rfl))
    (dss_cons (ds_set ND rfl (.inr rfl) (de_lc (own := [("spot", 12)]) rfl ND (di_rg1 rfl T.n_range (de_op op_addAll (addP_ok hK) (de_int) (de_calIO C_law_draw hr (by decide) rfl tk (pv 0) (da_cons (de_v (pv 2)) (da_nil)) rfl))) (by rfl) (fun _ _ _ _ _ => dg_nm ND rfl (.inl rfl)) (fun _ _ _ _ _ => dts_nil) (fun _ _ _ _ _ => de_pop0 (pv 5))))
    (dss_cons (ds_setLc (own := [("column", 14)]) rfl ND rfl rfl (by rfl) (di_sqQ hK (de_v (pv 11))) (by rfl) (fun _ _ _ _ _ => dg_nm ND rfl (.inl rfl)) (fun _ _ _ _ _ => dts_one (dt_cmp (op_eqD (un64 hr)) (eqP_ok hK) (de_calIO C_law_draw hr (by decide) rfl LamX.takes0 (pv 0) (da_cons (de_int) (da_nil)) rfl) (de_int) (nomark _))) (fun _ _ _ _ _ => de_v (pv 14)))
    (dss_cons (ds_expr (de_mt PySem.F.plainAttrs_list PySem.F.slot_list_append PySem.F.type_list_append mt_append appendP_ok (pv 7) (da_cons (de_tup (da_cons (de_ix ix_seq (ixP_ok hK) (pv 4) (pv 10)) (da_cons (de_v (pv 11)) (da_cons (de_v (pv 13)) (da_cons (de_calIO C_law_pick hr (by decide) rfl tk (pv 0) (da_cons (de_lst (da_cons (de_str) (da_cons (de_str) (da_cons (de_str) (da_nil))))) (da_nil)) rfl) (da_nil)))))) (da_nil))))
    (dss_one (ds_for (passes_of rfl) rfl (di_sqQ hK (de_v (pv 11))) (dg_nm ND rfl (.inl rfl))
    (dss_cons (ds_set ND rfl (.inl rfl) (de_calIO C_law_draw hr (by decide) rfl tk (pv 0) (da_cons (de_v (pv 6)) (da_nil)) rfl))
    (dss_cons (ds_setLc (own := [("one", 16)]) rfl ND rfl rfl (by rfl) (di_sqQ hK (de_get (un1 hr) (pv 8) (pv 12) (de_lst (da_nil)))) (by rfl) (fun _ _ _ _ _ => dg_nm ND rfl (.inl rfl)) (fun _ _ _ _ _ => dts_one (dt_cmp (op_notInAll) (inP_ok hK) (pv 16) (pv 11) (by with_unfolding_all rfl))) (fun _ _ _ _ _ => de_v (pv 16)))
    (dss_cons (ds_if (dt_w (dw_and (dt_cmp (op_neD (un64 hr)) (neP_ok hK) (pv 15) (de_lst (da_nil)) (nomark _)) (dw_and1 (dt_cmp (op_gt) (cmpP_ok) (de_calIO C_law_draw hr (by decide) rfl tk (pv 0) (da_cons (de_int) (da_nil)) rfl) (de_int) (nomark _))))) (dss_one (ds_expr (de_mt PySem.F.plainAttrs_list PySem.F.slot_list_append PySem.F.type_list_append mt_append appendP_ok (pv 9) (da_cons (de_calIO C_law_pick hr (by decide) rfl tk (pv 0) (da_cons (de_lst (da_cons (de_tup (da_cons (de_v (pv 14)) (da_cons (de_ix ix_seq (ixP_ok hK) (pv 15) (de_un un_neg negP_ok (de_int))) (da_nil)))) (da_cons (de_tup (da_cons (de_ix ix_seq (ixP_ok hK) (pv 15) (de_int)) (da_cons (de_v (pv 14)) (da_nil)))) (da_nil)))) (da_nil)) rfl) (da_nil))))) (dss_nil))
    (dss_one (ds_sub (un1 hr) (pv 8) (de_v (pv 12)) (de_op op_addAll (addP_ok hK) (de_get (un1 hr) (pv 8) (pv 12) (de_lst (da_nil))) (de_lst (da_cons (de_v (pv 14)) (da_nil)))))))))))))))
    (dss_one (ds_ret (de_dct (dps_cons (de_str) (de_v (pv 7)) (dps_cons (de_str) (de_v (pv 9)) (dps_nil)))))))))
/-! ### _law_query -/
abbrev n__law_query : List Str := ["plain", "name", "columns", "unique", "kind"]
theorem sc__law_query : FnScope n__law_query ["plain"] (defScope s__law_query) := ⟨rfl, rfl, rfl, by decide +kernel, rfl, by decide +kernel, by decide +kernel⟩
def b__law_query : MS :=
    mRet (mMake c_Query___init__ 1 [mLc (.tp [.nm 1, .nm 2, .nm 3, .nm 4]) [1, 2, 3, 4] (itSq (mO2 dgetP (.pl 0) (.ex (mC (.str "tables"))))) (mYes) (mMake c_Table___init__ 0 [mV 1, mV 2, mV 3, mV 4] []), mO2 dgetP (.pl 0) (.ex (mC (.str "pairs")))] [])
def c__law_query : FN := mkFn 5 false b__law_query
theorem ok__law_query {P : Program} {w : World} {K : PySem.W.Frag} {mg : Str → Option Value} {base : Heap} {CA : Nat → Addr} {CM : Addr} {fI : Nat → Addr} {tt : List (Addr × Str)} (T : Txt P K mg CA CM fI tt) (CQuery___init__ : Mak P w K mg base (ctx K CA tt) "Query" 1 3 5 c_Query___init__ []) (CTable___init__ : Mak P w K mg base (ctx K CA tt) "Table" 0 5 5 c_Table___init__ []) {f : Addr} {fd : FuncData} (F : Fun K "_law_query" "_law_query" s__law_query f fd) :
    FnOk P w K mg base (L2.CX P w) 7 f fd ["plain"] (SpF (ctx K CA tt) false 1 c__law_query) :=
  have ND := sc__law_query.nd
  have hK : (ctx K CA tt).K = K := rfl
  fn_ok F sc__law_query (by decide) (fun _ => by decide) fun cdv A outer s H E hr tk =>
    dss_one (ds_ret (de_mak CQuery___init__ hr (by decide) rfl tk (da_cons (de_lc (own := [("name", 1), ("columns", 2), ("unique", 3), ("kind", 4)]) rfl ND (di_sqQ hK (de_dget (un1 hr) (pv 0) (de_str))) (by rfl) (fun _ _ _ _ _ => dg_tp hK rfl (dgs_cons (dg_nm ND rfl (.inl rfl)) (dgs_cons (dg_nm ND rfl (.inl rfl)) (dgs_cons (dg_nm ND rfl (.inl rfl)) (dgs_cons (dg_nm ND rfl (.inl rfl)) (dgs_nil)))))) (fun _ _ _ _ _ => dts_nil) (fun _ _ _ _ _ => de_mak CTable___init__ hr (by decide) rfl LamX.takes0 (da_cons (de_v (pv 1)) (da_cons (de_v (pv 2)) (da_cons (de_v (pv 3)) (da_cons (de_v (pv 4)) (da_nil))))) rfl)) (da_cons (de_dget (un1 hr) (pv 0) (de_str)) (da_nil))) rfl))
/-! ### _law_lots -/
abbrev n__law_lots : List Str := ["names", "found", "name", "lot", "many"]
theorem sc__law_lots : FnScope n__law_lots ["names"] (defScope s__law_lots) := ⟨rfl, rfl, rfl, by decide +kernel, rfl, by decide +kernel, by decide +kernel⟩
def b__law_lots : MS :=
    mSeq (mSet 1 (mLst [mTup []]))
    (mSeq (mFor (.nm 2) (itSq (mO1 sortQ (.pl 0)))
    (mSet 1 (mO2 addP (.pl 1) (.ex (mLc (.nm 3) [3] (itSq (mV 1)) (mYes) (mO2 addP (.pl 3) (.ex (mTup [mV 2]))))))))
    (mRet (mLc (.tp [.nm 4, .nm 3]) [4, 3] (itSq (mO1 sortDP (.ex (mLc (.nm 3) [3] (itSq (mV 1)) (mYes) (mTup [mO1 lenP (.pl 3), mV 3]))))) (mT (mO2 (cmpP fun i j => decide (j < i)) (.pl 4) (.ex (mC (.int 0))))) (mV 3))))
def c__law_lots : FN := mkFn 5 false b__law_lots
theorem ok__law_lots {P : Program} {w : World} {K : PySem.W.Frag} {mg : Str → Option Value} {base : Heap} {CA : Nat → Addr} {CM : Addr} {fI : Nat → Addr} {tt : List (Addr × Str)} (T : Txt P K mg CA CM fI tt)  {f : Addr} {fd : FuncData} (F : Fun K "_law_lots" "_law_lots" s__law_lots f fd) :
    FnOk P w K mg base (L2.CX P w) 2 f fd ["names"] (SpF (ctx K CA tt) false 1 c__law_lots) :=
  have ND := sc__law_lots.nd
  have hK : (ctx K CA tt).K = K := rfl
  fn_ok F sc__law_lots (by decide) (fun _ => by decide) fun cdv A outer s H E hr tk =>
    dss_cons (ds_set ND rfl (.inl rfl) (de_lst (da_cons (de_tup (da_nil)) (da_nil))))
    (dss_cons (ds_for (passes_of rfl) rfl (di_sqQ hK (de_b1 cr_sortQ (sortQ_ok hK) rfl T.n_sorted (by decide +kernel) (pv 0))) (dg_nm ND rfl (.inr rfl))
    (dss_one (ds_set ND rfl (.inl rfl) (de_op op_addAll (addP_ok hK) (pv 1) (de_lc (own := [("lot", 3)]) rfl ND (di_sqQ hK (de_v (pv 1))) (by rfl) (fun _ _ _ _ _ => dg_nm ND rfl (.inl rfl)) (fun _ _ _ _ _ => dts_nil) (fun _ _ _ _ _ => de_op op_addAll (addP_ok hK) (pv 3) (de_tup (da_cons (de_v (pv 2)) (da_nil)))))))))
    (dss_one (ds_ret (de_lc (own := [("many", 4), ("lot", 3)]) rfl ND (di_sqQ hK (de_b1 (cr_sortD (un66 hr)) (sortDP_ok hK) rfl T.n_sorted (by decide +kernel) (de_lc (own := [("lot", 3)]) rfl ND (di_sqQ hK (de_v (pv 1))) (by rfl) (fun _ _ _ _ _ => dg_nm ND rfl (.inl rfl)) (fun _ _ _ _ _ => dts_nil) (fun _ _ _ _ _ => de_tup (da_cons (de_b1 call_len (lenP_ok hK) rfl T.n_len (by decide +kernel) (pv 3)) (da_cons (de_v (pv 3)) (da_nil))))))) (by rfl) (fun _ _ _ _ _ => dg_tp hK rfl (dgs_cons (dg_nm ND rfl (.inl rfl)) (dgs_cons (dg_nm ND rfl (.inl rfl)) (dgs_nil)))) (fun _ _ _ _ _ => dts_one (dt_cmp (op_gt) (cmpP_ok) (pv 4) (de_int) (nomark _))) (fun _ _ _ _ _ => de_v (pv 3))))))
/-! ### _law_trees -/
abbrev n__law_trees : List Str := ["names", "found", "lot", "rest", "name", "one", "other"]
theorem sc__law_trees : FnScope n__law_trees ["names"] (defScope s__law_trees) := ⟨rfl, rfl, rfl, by decide +kernel, rfl, by decide +kernel, by decide +kernel⟩
def b__law_trees (cr : FN) : MS :=
    mSeq (mIfS (mT (mO2 eqP (.ex (mO1 lenP (.pl 0))) (.ex (mC (.int 1))))) (mRet (mLst [mO2 ixP (.pl 0) (.ex (mC (.int 0)))])) (mNext))
    (mSeq (mSet 1 (mLst []))
    (mSeq (mFor (.nm 2) (itSq (mCall c__law_lots [mSl (.pl 0) (some (mC (.int 1))) none] []))
    (mSeq (mSet 3 (mO1 tupleP (.ex (mLc (.nm 4) [4] (itSq (mV 0)) (mT (mO2 (inP true) (.pl 4) (.pl 2))) (mV 4)))))
    (mFor (.nm 5) (itSq (mCall cr [mV 3] []))
    (mSet 1 (mO2 addP (.pl 1) (.ex (mLc (.nm 6) [6] (itSq (mCall cr [mV 2] [])) (mYes) (mTup [mV 5, mV 6]))))))))
    (mRet (mMv 1))))
def c__law_trees : Nat → FN
  | 0 => fun _ => .bad
  | n + 1 => mkFn 7 false (b__law_trees (c__law_trees n))
theorem ok__law_trees {P : Program} {w : World} {K : PySem.W.Frag} {mg : Str → Option Value} {base : Heap} {CA : Nat → Addr} {CM : Addr} {fI : Nat → Addr} {tt : List (Addr × Str)} (T : Txt P K mg CA CM fI tt) (C_law_lots : Cal P w K mg base (ctx K CA tt) "_law_lots" false 1 2 c__law_lots []) {f : Addr} {fd : FuncData} (F : Fun K "_law_trees" "_law_trees" s__law_trees f fd) (hm : mg "_law_trees" = some (.ref f)) (hb : Binds K fd ["names"] []) :
    ∀ n : Nat, FnOk P w K mg base (L2.CX P w) (n + 3) f fd ["names"] (SpF (ctx K CA tt) false 1 (c__law_trees n))
  | 0 => fn_bad
  | n + 1 =>
    have CR : Cal P w K mg base (ctx K CA tt) "_law_trees" false 1 (n + 3) (c__law_trees n) [] := ⟨f, fd, _, [], [], ok__law_trees T C_law_lots F hm hb n, hm, F.kp, hb, .nil, rfl, fun _ _ => .nil⟩
    have ND := sc__law_trees.nd
    have hK : (ctx K CA tt).K = K := rfl
    fn_ok F sc__law_trees (by decide) (fun _ => by decide) fun cdv A outer s H E hr tk =>
    dss_cons (ds_if (dt_cmp (op_eqD (un64 hr)) (eqP_ok hK) (de_b1 call_len (lenP_ok hK) rfl T.n_len (by decide +kernel) (pv 0)) (de_int) (nomark _)) (dss_one (ds_ret (de_lst (da_cons (de_ix ix_seq (ixP_ok hK) (pv 0) (de_int)) (da_nil))))) (dss_nil))
    (dss_cons (ds_set ND rfl (.inl rfl) (de_lst (da_nil)))
    (dss_cons (ds_for (passes_of rfl) rfl (di_sqQ hK (de_cal C_law_lots hr (by omega) rfl tk (da_cons (de_slice hK (pv 0) (dpo_some (de_int)) dpo_none) (da_nil)) rfl)) (dg_nm ND rfl (.inr rfl))
    (dss_cons (ds_set ND rfl (.inl rfl) (de_t1 call_tuple_of (tupleP_ok hK) rfl T.n_tuple (by decide +kernel) (de_lc (own := [("name", 4)]) rfl ND (di_sqQ hK (de_v (pv 0))) (by rfl) (fun _ _ _ _ _ => dg_nm ND rfl (.inl rfl)) (fun _ _ _ _ _ => dts_one (dt_cmp (op_notInAll) (inP_ok hK) (pv 4) (pv 2) (by with_unfolding_all rfl))) (fun _ _ _ _ _ => de_v (pv 4)))))
    (dss_one (ds_for (passes_of rfl) rfl (di_sqQ hK (de_cal CR hr (Nat.le_refl _) rfl tk (da_cons (de_v (pv 3)) (da_nil)) rfl)) (dg_nm ND rfl (.inr rfl))
    (dss_one (ds_set ND rfl (.inl rfl) (de_op op_addAll (addP_ok hK) (pv 1) (de_lc (own := [("other", 6)]) rfl ND (di_sqQ hK (de_cal CR hr (Nat.le_refl _) rfl tk (da_cons (de_v (pv 2)) (da_nil)) rfl)) (by rfl) (fun _ _ _ _ _ => dg_nm ND rfl (.inl rfl)) (fun _ _ _ _ _ => dts_nil) (fun _ _ _ _ _ => de_tup (da_cons (de_v (pv 5)) (da_cons (de_v (pv 6)) (da_nil))))))))))))
    (dss_one (ds_ret (de_mv (pv 1))))))
/-! ### _law_in -/
abbrev n__law_in : List Str := ["tree"]
theorem sc__law_in : FnScope n__law_in ["tree"] (defScope s__law_in) := ⟨rfl, rfl, rfl, by decide +kernel, rfl, by decide +kernel, by decide +kernel⟩
def b__law_in (cr : FN) : MS :=
    mRet (mIf (mT (mO1 (isiP anc [0, 1] [.str]) (.pl 0))) (mTup [mV 0]) (mO1 tupleP (.ex (mO1 sortQ (.ex (mO2 addP (.ex (mCall cr [mO2 ixP (.pl 0) (.ex (mC (.int 0)))] [])) (.ex (mCall cr [mO2 ixP (.pl 0) (.ex (mC (.int 1)))] []))))))))
def c__law_in : Nat → FN
  | 0 => fun _ => .bad
  | n + 1 => mkFn 1 false (b__law_in (c__law_in n))
theorem ok__law_in {P : Program} {w : World} {K : PySem.W.Frag} {mg : Str → Option Value} {base : Heap} {CA : Nat → Addr} {CM : Addr} {fI : Nat → Addr} {tt : List (Addr × Str)} (T : Txt P K mg CA CM fI tt)  {f : Addr} {fd : FuncData} (F : Fun K "_law_in" "_law_in" s__law_in f fd) (hm : mg "_law_in" = some (.ref f)) (hb : Binds K fd ["tree"] []) :
    ∀ n : Nat, FnOk P w K mg base (L2.CX P w) (n + 1) f fd ["tree"] (SpF (ctx K CA tt) false 1 (c__law_in n))
  | 0 => fn_bad
  | n + 1 =>
    have CR : Cal P w K mg base (ctx K CA tt) "_law_in" false 1 (n + 1) (c__law_in n) [] := ⟨f, fd, _, [], [], ok__law_in T  F hm hb n, hm, F.kp, hb, .nil, rfl, fun _ _ => .nil⟩
    have ND := sc__law_in.nd
    have hK : (ctx K CA tt).K = K := rfl
    fn_ok F sc__law_in (by decide) (fun _ => by decide) fun cdv A outer s H E hr tk =>
    dss_one (ds_ret (de_if (dt_val (de_isi hK T.ins T.k_str rfl T.n_isinstance (pv 0) (pe_ty rfl T.n_str (by decide +kernel)))) (de_tup (da_cons (de_v (pv 0)) (da_nil))) (de_t1 call_tuple_of (tupleP_ok hK) rfl T.n_tuple (by decide +kernel) (de_b1 cr_sortQ (sortQ_ok hK) rfl T.n_sorted (by decide +kernel) (de_op op_addAll (addP_ok hK) (de_cal CR hr (Nat.le_refl _) rfl tk (da_cons (de_ix ix_seq (ixP_ok hK) (pv 0) (de_int)) (da_nil)) rfl) (de_cal CR hr (Nat.le_refl _) rfl tk (da_cons (de_ix ix_seq (ixP_ok hK) (pv 0) (de_int)) (da_nil)) rfl))))))
/-! ### _law_steps -/
abbrev n__law_steps : List Str := ["tree"]
theorem sc__law_steps : FnScope n__law_steps ["tree"] (defScope s__law_steps) := ⟨rfl, rfl, rfl, by decide +kernel, rfl, by decide +kernel, by decide +kernel⟩
def b__law_steps (cr : FN) : MS :=
    mRet (mIf (mT (mO1 (isiP anc [0, 1] [.str]) (.pl 0))) (mLst []) (mO2 addP (.ex (mO2 addP (.ex (mCall cr [mO2 ixP (.pl 0) (.ex (mC (.int 0)))] [])) (.ex (mCall cr [mO2 ixP (.pl 0) (.ex (mC (.int 1)))] [])))) (.ex (mLst [mCall (c__law_in 10) [mV 0] []]))))
def c__law_steps : Nat → FN
  | 0 => fun _ => .bad
  | n + 1 => mkFn 1 false (b__law_steps (c__law_steps n))
theorem ok__law_steps {P : Program} {w : World} {K : PySem.W.Frag} {mg : Str → Option Value} {base : Heap} {CA : Nat → Addr} {CM : Addr} {fI : Nat → Addr} {tt : List (Addr × Str)} (T : Txt P K mg CA CM fI tt) (C_law_in : Cal P w K mg base (ctx K CA tt) "_law_in" false 1 11 (c__law_in 10) []) {f : Addr} {fd : FuncData} (F : Fun K "_law_steps" "_law_steps" s__law_steps f fd) (hm : mg "_law_steps" = some (.ref f)) (hb : Binds K fd ["tree"] []) :
    ∀ n : Nat, FnOk P w K mg base (L2.CX P w) (n + 11) f fd ["tree"] (SpF (ctx K CA tt) false 1 (c__law_steps n))
  | 0 => fn_bad
  | n + 1 =>
    have CR : Cal P w K mg base (ctx K CA tt) "_law_steps" false 1 (n + 11) (c__law_steps n) [] := ⟨f, fd, _, [], [], ok__law_steps T C_law_in F hm hb n, hm, F.kp, hb, .nil, rfl, fun _ _ => .nil⟩
    have ND := sc__law_steps.nd
    have hK : (ctx K CA tt).K = K := rfl
    fn_ok F sc__law_steps (by decide) (fun _ => by decide) fun cdv A outer s H E hr tk =>
    dss_one (ds_ret (de_if (dt_val (de_isi hK T.ins T.k_str rfl T.n_isinstance (pv 0) (pe_ty rfl T.n_str (by decide +kernel)))) (de_lst (da_nil)) (de_op op_addAll (addP_ok hK) (de_op op_addAll (addP_ok hK) (de_cal CR hr (Nat.le_refl _) rfl tk (da_cons (de_ix ix_seq (ixP_ok hK) (pv 0) (de_int)) (da_nil)) rfl) (de_cal CR hr (Nat.le_refl _) rfl tk (da_cons (de_ix ix_seq (ixP_ok hK) (pv 0) (de_int)) (da_nil)) rfl)) (de_lst (da_cons (de_cal C_law_in hr (by omega) rfl tk (da_cons (de_v (pv 0)) (da_nil)) rfl) (da_nil))))))
/-! ### _law_is_chain -/
abbrev n__law_is_chain : List Str := ["tree"]
theorem sc__law_is_chain : FnScope n__law_is_chain ["tree"] (defScope s__law_is_chain) := ⟨rfl, rfl, rfl, by decide +kernel, rfl, by decide +kernel, by decide +kernel⟩
def b__law_is_chain (cr : FN) : MS :=
    mRet (mOrV (mO1 (isiP anc [0, 1] [.str]) (.pl 0)) (mAndV (mO1 (isiP anc [0, 1] [.str]) (.ex (mO2 ixP (.pl 0) (.ex (mC (.int 1)))))) (mCall cr [mO2 ixP (.pl 0) (.ex (mC (.int 0)))] [])))
def c__law_is_chain : Nat → FN
  | 0 => fun _ => .bad
  | n + 1 => mkFn 1 false (b__law_is_chain (c__law_is_chain n))
theorem ok__law_is_chain {P : Program} {w : World} {K : PySem.W.Frag} {mg : Str → Option Value} {base : Heap} {CA : Nat → Addr} {CM : Addr} {fI : Nat → Addr} {tt : List (Addr × Str)} (T : Txt P K mg CA CM fI tt)  {f : Addr} {fd : FuncData} (F : Fun K "_law_is_chain" "_law_is_chain" s__law_is_chain f fd) (hm : mg "_law_is_chain" = some (.ref f)) (hb : Binds K fd ["tree"] []) :
    ∀ n : Nat, FnOk P w K mg base (L2.CX P w) (n + 1) f fd ["tree"] (SpF (ctx K CA tt) false 1 (c__law_is_chain n))
  | 0 => fn_bad
  | n + 1 =>
    have CR : Cal P w K mg base (ctx K CA tt) "_law_is_chain" false 1 (n + 1) (c__law_is_chain n) [] := ⟨f, fd, _, [], [], ok__law_is_chain T  F hm hb n, hm, F.kp, hb, .nil, rfl, fun _ _ => .nil⟩
    have ND := sc__law_is_chain.nd
    have hK : (ctx K CA tt).K = K := rfl
    fn_ok F sc__law_is_chain (by decide) (fun _ => by decide) fun cdv A outer s H E hr tk =>
    dss_one (ds_ret (de_or (de_isi hK T.ins T.k_str rfl T.n_isinstance (pv 0) (pe_ty rfl T.n_str (by decide +kernel))) (de_one (de_and (de_isi hK T.ins T.k_str rfl T.n_isinstance (de_ix ix_seq (ixP_ok hK) (pv 0) (de_int)) (pe_ty rfl T.n_str (by decide +kernel))) (de_one (de_cal CR hr (Nat.le_refl _) rfl tk (da_cons (de_ix ix_seq (ixP_ok hK) (pv 0) (de_int)) (da_nil)) rfl))))))
/-! ### _law_tree -/
abbrev n__law_tree : List Str := ["pen", "names", "left", "one", "other"]
theorem sc__law_tree : FnScope n__law_tree ["pen", "names"] (defScope s__law_tree) := ⟨rfl, rfl, rfl, by decide +kernel, rfl, by decide +kernel, by decide +kernel⟩
def b__law_tree : MS :=
    mSeq (mSet 2 (mO1 listQ (.pl 1)))
    (mSeq (whE (mT (mO2 (cmpP fun i j => decide (j < i)) (.ex (mO1 lenP (.pl 2))) (.ex (mC (.int 1))))) (mSeq (mSet 3 (mMt 2 popAtP [mCallIO c__law_draw 0 [mO1 lenP (.pl 2)] []]))
    (mSeq (mSet 4 (mMt 2 popAtP [mCallIO c__law_draw 0 [mO1 lenP (.pl 2)] []]))
    (mExpr (mMt 2 appendP [mCallIO c__law_pick 0 [mLst [mTup [mV 3, mV 4], mLst [mV 4, mV 3]]] []])))) 64)
    (mRet (mO2 ixP (.pl 2) (.ex (mC (.int 0))))))
def c__law_tree : FN := mkFn 5 true b__law_tree
theorem ok__law_tree {P : Program} {w : World} {K : PySem.W.Frag} {mg : Str → Option Value} {base : Heap} {CA : Nat → Addr} {CM : Addr} {fI : Nat → Addr} {tt : List (Addr × Str)} (T : Txt P K mg CA CM fI tt) (C_law_draw : Cal P w K mg base (ctx K CA tt) "_law_draw" true 2 2 c__law_draw []) (C_law_pick : Cal P w K mg base (ctx K CA tt) "_law_pick" true 2 3 c__law_pick []) {f : Addr} {fd : FuncData} (F : Fun K "_law_tree" "_law_tree" s__law_tree f fd) :
    FnOk P w K mg base (L2.CX P w) 4 f fd ["pen", "names"] (SpF (ctx K CA tt) true 2 c__law_tree) :=
  have ND := sc__law_tree.nd
  have hK : (ctx K CA tt).K = K := rfl
  fn_ok F sc__law_tree (by decide) (fun _ => by decide) fun cdv A outer s H E hr tk =>
    dss_cons (ds_set ND rfl (.inl rfl) (de_t1 call_list_of (listQ_ok hK) rfl T.n_list (by decide +kernel) (pv 1)))
    (dss_cons (ds_while 64 (passes_of rfl) (dt_cmp (op_gt) (cmpP_ok) (de_b1 call_len (lenP_ok hK) rfl T.n_len (by decide +kernel) (pv 2)) (de_int) (nomark _)) (dss_cons (ds_set ND rfl (.inl rfl) (de_mt PySem.F.plainAttrs_list PySem.F.slot_list_pop PySem.F.type_list_pop mt_popAt popAtP_ok (pv 2) (da_cons (de_calIO C_law_draw hr (by decide) rfl tk (pv 0) (da_cons (de_b1 call_len (lenP_ok hK) rfl T.n_len (by decide +kernel) (pv 2)) (da_nil)) rfl) (da_nil))))
    (dss_cons (ds_set ND rfl (.inl rfl) (de_mt PySem.F.plainAttrs_list PySem.F.slot_list_pop PySem.F.type_list_pop mt_popAt popAtP_ok (pv 2) (da_cons (de_calIO C_law_draw hr (by decide) rfl tk (pv 0) (da_cons (de_b1 call_len (lenP_ok hK) rfl T.n_len (by decide +kernel) (pv 2)) (da_nil)) rfl) (da_nil))))
    (dss_one (ds_expr (de_mt PySem.F.plainAttrs_list PySem.F.slot_list_append PySem.F.type_list_append mt_append appendP_ok (pv 2) (da_cons (de_calIO C_law_pick hr (by decide) rfl tk (pv 0) (da_cons (de_lst (da_cons (de_tup (da_cons (de_v (pv 3)) (da_cons (de_v (pv 4)) (da_nil)))) (da_cons (de_lst (da_cons (de_v (pv 4)) (da_cons (de_v (pv 3)) (da_nil)))) (da_nil)))) (da_nil)) rfl) (da_nil))))))))
    (dss_one (ds_ret (de_ix ix_seq (ixP_ok hK) (pv 2) (de_int)))))
/-! ### _law_bent -/
abbrev n__law_bent : List Str := ["pen", "names", "tree", "some"]
theorem sc__law_bent : FnScope n__law_bent ["pen", "names", "tree"] (defScope s__law_bent) := ⟨rfl, rfl, rfl, by decide +kernel, rfl, by decide +kernel, by decide +kernel⟩
def b__law_bent : MS :=
    mSeq (mSet 3 (mLst [mC .non, mC (.int 5), mC (.str ""), mC (.str "nope"), mTup [], mLst [], mTup [mV 2], mTup [mV 2, mV 2, mV 2], mDct0, mC (.bl true), mC (.int 0), mTup [mC .non, mV 2], mTup [mO2 ixP (.pl 1) (.ex (mC (.int 0))), mC (.int 7)]]))
    (mSeq (mIfS (mT (mO2 (cmpP fun i j => decide (j < i)) (.ex (mO1 lenP (.pl 1))) (.ex (mC (.int 1))))) (mSet 3 (mO2 addP (.pl 3) (.ex (mLst [mO2 ixP (.pl 1) (.ex (mC (.int 0))), mTup [mV 2, mO2 ixP (.pl 1) (.ex (mC (.int 0)))], mIf (mT (mO2 eqP (.ex (mO1 lenP (.pl 1))) (.ex (mC (.int 3))))) (mO1 tupleP (.ex (mSl (.pl 1) (some (mC (.int 1))) none))) (mO2 ixP (.pl 1) (.ex (mO1 negP (.ex (mC (.int 1)))))), mLst [mO2 ixP (.pl 1) (.ex (mC (.int 0))), mO2 ixP (.pl 1) (.ex (mC (.int 0)))], mTup [mO2 ixP (.pl 1) (.ex (mC (.int 0))), mC (.str "nope")], mDct [(mO2 ixP (.pl 1) (.ex (mC (.int 0))), mO2 ixP (.pl 1) (.ex (mC (.int 1))))]])))) (mNext))
    (mRet (mCallIO c__law_pick 0 [mO2 addP (.pl 3) (.ex (mLst [mTup [mV 2, mC (.str "nope")], mTup [mC (.str "nope"), mV 2], mO2 addP (.ex (mO2 ixP (.pl 1) (.ex (mC (.int 0))))) (.ex (mC (.str "x")))]))] [])))
def c__law_bent : FN := mkFn 4 true b__law_bent
theorem ok__law_bent {P : Program} {w : World} {K : PySem.W.Frag} {mg : Str → Option Value} {base : Heap} {CA : Nat → Addr} {CM : Addr} {fI : Nat → Addr} {tt : List (Addr × Str)} (T : Txt P K mg CA CM fI tt) (C_law_pick : Cal P w K mg base (ctx K CA tt) "_law_pick" true 2 3 c__law_pick []) {f : Addr} {fd : FuncData} (F : Fun K "_law_bent" "_law_bent" s__law_bent f fd) :
    FnOk P w K mg base (L2.CX P w) 4 f fd ["pen", "names", "tree"] (SpF (ctx K CA tt) true 3 c__law_bent) :=
  have ND := sc__law_bent.nd
  have hK : (ctx K CA tt).K = K := rfl
  fn_ok F sc__law_bent (by decide) (fun _ => by decide) fun cdv A outer s H E hr tk =>
    dss_cons (ds_set ND rfl (.inl rfl) (de_lst (da_cons (de_non) (da_cons (de_int) (da_cons (de_str) (da_cons (de_str) (da_cons (de_tup (da_nil)) (da_cons (de_lst (da_nil)) (da_cons (de_tup (da_cons (de_v (pv 2)) (da_nil))) (da_cons (de_tup (da_cons (de_v (pv 2)) (da_cons (de_v (pv 2)) (da_cons (de_v (pv 2)) (da_nil))))) (da_cons (de_dct0) (da_cons (de_bl) (da_cons (de_int) (da_cons (de_tup (da_cons (de_non) (da_cons (de_v (pv 2)) (da_nil)))) (da_cons (de_tup (da_cons (de_ix ix_seq (ixP_ok hK) (pv 1) (de_int)) (da_cons (de_int) (da_nil)))) (da_nil))))))))))))))))
    (dss_cons (ds_if (dt_cmp (op_gt) (cmpP_ok) (de_b1 call_len (lenP_ok hK) rfl T.n_len (by decide +kernel) (pv 1)) (de_int) (nomark _)) (dss_one (ds_set ND rfl (.inl rfl) (de_op op_addAll (addP_ok hK) (pv 3) (de_lst (da_cons (de_ix ix_seq (ixP_ok hK) (pv 1) (de_int)) (da_cons (de_tup (da_cons (de_v (pv 2)) (da_cons (de_ix ix_seq (ixP_ok hK) (pv 1) (de_int)) (da_nil)))) (da_cons (de_if (dt_cmp (op_eqD (un64 hr)) (eqP_ok hK) (de_b1 call_len (lenP_ok hK) rfl T.n_len (by decide +kernel) (pv 1)) (de_int) (nomark _)) (de_t1 call_tuple_of (tupleP_ok hK) rfl T.n_tuple (by decide +kernel) (de_slice hK (pv 1) (dpo_some (de_int)) dpo_none)) (de_ix ix_seq (ixP_ok hK) (pv 1) (de_un un_neg negP_ok (de_int)))) (da_cons (de_lst (da_cons (de_ix ix_seq (ixP_ok hK) (pv 1) (de_int)) (da_cons (de_ix ix_seq (ixP_ok hK) (pv 1) (de_int)) (da_nil)))) (da_cons (de_tup (da_cons (de_ix ix_seq (ixP_ok hK) (pv 1) (de_int)) (da_cons (de_str) (da_nil)))) (da_cons (de_dct (dps_cons (de_ix ix_seq (ixP_ok hK) (pv 1) (de_int)) (de_ix ix_seq (ixP_ok hK) (pv 1) (de_int)) (dps_nil))) (da_nil))))))))))) (dss_nil))
    (dss_one (ds_ret (de_calIO C_law_pick hr (by decide) rfl tk (pv 0) (da_cons (de_op op_addAll (addP_ok hK) (pv 3) (de_lst (da_cons (de_tup (da_cons (de_v (pv 2)) (da_cons (de_str) (da_nil)))) (da_cons (de_tup (da_cons (de_str) (da_cons (de_v (pv 2)) (da_nil)))) (da_cons (de_op op_addAll (addP_ok hK) (de_ix ix_seq (ixP_ok hK) (pv 1) (de_int)) (de_str)) (da_nil)))))) (da_nil)) rfl))))
end K39

set_option Elab.async false
set_option linter.all false
set_option maxRecDepth 100000
set_option maxHeartbeats 4000000
/-! K39B: what is heard of a thunk; the law's own body. Printed by k39.py. -/
namespace K39
open PySem PySem.Spec PyProof.Rows L2 DL LamX
abbrev n__law_heard : List Str := ["ask", "found", "caught", "error"]
def b__law_heard (ma : ME) : MS :=
    mSeq (mUn (.tp [.nm 1, .nm 2]) (mTup [mC .non, mC .non]))
    (mSeq (mTryC hs_MostError 3 2 (mSet 1 ma))
    (mSeq (mIfS (mT (mO2 isNP (.pl 2) (.ex (mC .non)))) (mRet (mLst [mV 1])) (mNext))
    (mSeq (mIfS (mT (mO1 (isxP anc [2, 3] 2) (.pl 2))) (mRet (mTup [mC (.str "query"), mO1 (attrXP ix_x_part) (.pl 2)])) (mNext))
    (mRet (mIf (mT (mO1 (isxP anc [2, 3] 3) (.pl 2))) (mTup [mC (.str "order"), mO1 (attrXP ix_x_part) (.pl 2)]) (mTup [mC (.str "other")]))))))
theorem sc__law_heard : FnScope n__law_heard ["ask"] (defScope s__law_heard) := ⟨rfl, rfl, rfl, by decide +kernel, rfl, by decide +kernel, by decide +kernel⟩
theorem dss_heard {P : Program} {w : World} {K : PySem.W.Frag} {mg : Str → Option Value} {base : Heap} {CA : Nat → Addr} {CM : Addr} {fI : Nat → Addr} {tt : List (Addr × Str)} (T : Txt P K mg CA CM fI tt) {f : Addr} {cdv : Value} {A : Around} {outer : List Env} {s : Shared} {H : Hp} {E : XK} {ma : ME}
    (hr : Room 25 (A.deeper (envOfC "_law_heard" (defScope s__law_heard) s.heap.objs.size f cdv))) (tk : Takes (cxOf (L2.CX P w) P w K mg base n__law_heard "_law_heard" (defScope s__law_heard) f cdv A outer s H E) (WD E))
    (hask : ∀ (W : WX) (pn : List (Addr × Obj)) (xe : Value → Shared → Prop) (p1 p2 : Pos), Takes ((cxOf (L2.CX P w) P w K mg base n__law_heard "_law_heard" (defScope s__law_heard) f cdv A outer s H E).tr pn xe) W → DE ((cxOf (L2.CX P w) P w K mg base n__law_heard "_law_heard" (defScope s__law_heard) f cdv A outer s H E).tr pn xe) (ctx K CA tt) W (.Call (.Name "ask" p1) [] [] p2) ma) :
    DSs (cxOf (L2.CX P w) P w K mg base n__law_heard "_law_heard" (defScope s__law_heard) f cdv A outer s H E) (ctx K CA tt) (WD E) (defBody s__law_heard) (b__law_heard ma) :=
  have ND := sc__law_heard.nd
  have hK : (ctx K CA tt).K = K := rfl
  dss_cons (ds_un (de_tup (da_cons (de_non) (da_cons (de_non) (da_nil)))) (dg_tp hK rfl (dgs_cons (dg_nm ND rfl (.inl rfl)) (dgs_cons (dg_nm ND rfl (.inl rfl)) (dgs_nil)))))
    (dss_cons (ds_tryC rfl rfl rfl ND rfl rfl (by decide) rfl rfl ⟨rfl, by decide, .inl T.g_MostError⟩ tk T.hs_MostError (fun W pn xe tk _ => dss_one (ds_set ND rfl (.inl rfl) (hask W pn xe _ _ tk))))
    (dss_cons (ds_if (dt_cmp (op_isN) (isNP_ok) (pv 2) (de_non) (nomark _)) (dss_one (ds_ret (de_lst (da_cons (de_v (pv 1)) (da_nil))))) (dss_nil))
    (dss_cons (ds_if (dt_val (de_isx (T.xk 2 (by decide)) rfl T.n_isinstance (pv 2) (pe_cls rfl T.g_BadQuery))) (dss_one (ds_ret (de_tup (da_cons (de_str) (da_cons (de_attrX T.fx_part (pv 2)) (da_nil)))))) (dss_nil))
    (dss_one (ds_ret (de_if (dt_val (de_isx (T.xk 3 (by decide)) rfl T.n_isinstance (pv 2) (pe_cls rfl T.g_BadOrder))) (de_tup (da_cons (de_str) (da_cons (de_attrX T.fx_part (pv 2)) (da_nil)))) (de_tup (da_cons (de_str) (da_nil)))))))))

/-- what is heard -/
def hv__law_heard : RC → RC
  | .ok d _ _ => .ok (.lst [d]) true none
  | .exc c fs _ => match c with
    | 2 => (match fs with
      | p :: _ => .ok (.tup [.str "query", p]) false none
      | [] => .bad)
    | 3 => (match fs with
      | p :: _ => .ok (.tup [.str "order", p]) false none
      | [] => .bad)
    | _ => .bad
  | .bad => .bad
theorem mAsk_at {f : Addr} {H1 : Hp} {S1 : Sset} {r : RC} {env : EV} (h : env[0]? = some (some (.thk f H1 S1, .s))) : mAsk f H1 S1 r env = match r with
    | .ok d _ _ => .ok d false env
    | .exc c fs _ => .exc c fs env
    | .bad => .bad := by
  unfold mAsk
  rw [if_pos h]
  try (cases r <;> rfl)
abbrev E1 (x : D) : EV := [some (x, .s), some (.non, .s), some (.non, .s), none]
theorem hBeg (ma : ME) (x : D) : b__law_heard ma [some (x, .s), none, none, none] = mSeq (mTryC hs_MostError 3 2 (mSet 1 ma)) (mSeq (mIfS (mT (mO2 isNP (.pl 2) (.ex (mC .non)))) (mRet (mLst [mV 1])) (mNext))
    (mSeq (mIfS (mT (mO1 (isxP anc [2, 3] 2) (.pl 2))) (mRet (mTup [mC (.str "query"), mO1 (attrXP ix_x_part) (.pl 2)])) (mNext))
    (mRet (mIf (mT (mO1 (isxP anc [2, 3] 3) (.pl 2))) (mTup [mC (.str "order"), mO1 (attrXP ix_x_part) (.pl 2)]) (mTup [mC (.str "other")]))))) (E1 x) := rfl
theorem hFn (ma : ME) (x : D) : mkFn n__law_heard.length false (b__law_heard ma) [x] = match b__law_heard ma [some (x, .s), none, none, none] with
    | .nx e => .ok .non false (finE false e)
    | .rt d o e => .ok d o (finE false e)
    | .exc c fs e => .exc c fs (finE false e)
    | _ => .bad := rfl
theorem hA {ma : ME} {x d : D} (h : ma (E1 x) = .ok d false (E1 x)) : mkFn n__law_heard.length false (b__law_heard ma) [x] = .ok (.lst [d]) true none := by
  have h2 : mTryC hs_MostError 3 2 (mSet 1 ma) (E1 x) = .nx [some (x, .s), some (d, .s), some (.non, .s), none] := by
    unfold mTryC mSet bindS; rw [h]; rfl
  rw [hFn, hBeg, ev_seq h2]
  rfl
theorem hC {ma : ME} {x : D} {c : Nat} {fs : List D} (hc : hs_MostError c = none) (h : ma (E1 x) = .exc c fs (E1 x)) : mkFn n__law_heard.length false (b__law_heard ma) [x] = .bad := by
  have h2 : mTryC hs_MostError 3 2 (mSet 1 ma) (E1 x) = .bad := by
    unfold mTryC mSet bindS; rw [h]; simp only [hc]
  rw [hFn, hBeg]
  unfold mSeq
  rw [h2]
theorem hD {ma : ME} {x : D} (h : ma (E1 x) = .bad) : mkFn n__law_heard.length false (b__law_heard ma) [x] = .bad := by
  have h2 : mTryC hs_MostError 3 2 (mSet 1 ma) (E1 x) = .bad := by
    unfold mTryC mSet bindS; rw [h]
  rw [hFn, hBeg]
  unfold mSeq
  rw [h2]
theorem hB2 {ma : ME} {x : D} {fs : List D} (h : ma (E1 x) = .exc 2 fs (E1 x)) : mkFn n__law_heard.length false (b__law_heard ma) [x] = match fs with
    | p :: _ => .ok (.tup [.str "query", p]) false none
    | [] => .bad := by
  have h2 : mTryC hs_MostError 3 2 (mSet 1 ma) (E1 x) = .nx [some (x, .s), some (.non, .s), some (.exc 2 fs, .s), none] := by
    unfold mTryC mSet bindS; rw [h]; rfl
  rw [hFn, hBeg, ev_seq h2]
  cases fs <;> rfl
theorem hB3 {ma : ME} {x : D} {fs : List D} (h : ma (E1 x) = .exc 3 fs (E1 x)) : mkFn n__law_heard.length false (b__law_heard ma) [x] = match fs with
    | p :: _ => .ok (.tup [.str "order", p]) false none
    | [] => .bad := by
  have h2 : mTryC hs_MostError 3 2 (mSet 1 ma) (E1 x) = .nx [some (x, .s), some (.non, .s), some (.exc 3 fs, .s), none] := by
    unfold mTryC mSet bindS; rw [h]; rfl
  rw [hFn, hBeg, ev_seq h2]
  cases fs <;> rfl
theorem heard_is (f : Addr) (H1 : Hp) (S1 : Sset) (r : RC) : mkFn n__law_heard.length false (b__law_heard (mAsk f H1 S1 r)) [.thk f H1 S1] = hv__law_heard r := by
  have at0 := mAsk_at (f := f) (H1 := H1) (S1 := S1) (r := r) (env := E1 (.thk f H1 S1)) rfl
  cases r with
  | ok d o g => exact hA at0
  | bad => exact hD at0
  | exc c fs g =>
    by_cases h2 : c = 2
    · subst h2
      refine (hB2 at0).trans ?_
      cases fs <;> rfl
    · by_cases h3 : c = 3
      · subst h3
        refine (hB3 at0).trans ?_
        cases fs <;> rfl
      · have e1 : hs_MostError c = none := by
          unfold hs_MostError
          split
          · exact absurd rfl h2
          · exact absurd rfl h3
          · rfl
        have e2 : hv__law_heard (.exc c fs g) = .bad := by
          match c, h2, h3 with
          | 0, _, _ => rfl
          | 1, _, _ => rfl
          | 2, h, _ => exact absurd rfl h
          | 3, _, h => exact absurd rfl h
          | n + 4, _, _ => rfl
        rw [e2]
        exact hC e1 at0

/-- the def that hears -/
structure Hrd (K : PySem.W.Frag) (mg : Str → Option Value) : Prop where
  ex : ∃ (g : Addr) (fd : FuncData), Fun K "_law_heard" "_law_heard" s__law_heard g fd ∧ mg "_law_heard" = some (.ref g) ∧ Binds K fd ["ask"] []
theorem heard__law_heard {X : Cx} {W : WX} {CA : Nat → Addr} {CM c Pt : Addr} {fI : Nat → Addr} {tt : List (Addr × Str)} (T : Txt X.prog X.K X.mg CA CM fI tt) (TB : TabB X.base X.mg c Pt) (hcode : X.env.code = .ref c) (LH : Hrd X.K X.mg) (hmT : (Pt, X.env.qual ++ "<lambda>") ∈ tt) (hu : ∀ p ∈ tt, p.1 = Pt → p.2 = X.env.qual ++ "<lambda>") (hr : Room 26 X.A) (tk : Takes X W) (hg : Gl X "_law_heard")
    {params : Arguments} {body : Expr} {scope : Scope} {io : Option Int} {mb : ME} {p lpos pos : Pos} (L : LamSX X.N X.env.scope scope) (hdef : DefsOf params X.env io) (hbind : BindsL params body scope io)
    (hbody : ∀ (A : Around) (outer : List Env) (s : Shared) (H : Hp) (E : XK) (f c' : Addr), Room 24 (A.deeper (lamEnv X scope s.heap.objs.size f c')) → Takes (lamCx X A outer s H E scope f c') (WD E) → DE (lamCx X A outer s H E scope f c') (ctx X.K CA tt) (WD E) body mb) :
    DE X (ctx X.K CA tt) W (.Call (.Name "_law_heard" p) [.Lambda params body scope lpos] [] pos) (mHeard hv__law_heard mb) := by
  obtain ⟨g, fd, F, hm, hb⟩ := LH.ex
  obtain ⟨oc, od, kV, doc, pm, an, cdv, ct, osl, rfl, lk, hcd⟩ := F.ex
  exact de_heard (k := 24) (G := ctx X.K CA tt) (mh := b__law_heard) hg hm F.kp lk hcd hb sc__law_heard rfl (.inl rfl) TB hcode hmT hu hr L hdef hbind tk hbody (fun s H E ma hr tk hask => dss_heard T hr tk hask) heard_is
/-- a lambda's names, looked at -/
def lamSXB (N : List Str) (sc scope : Scope) : Bool :=
  (match scope.kind with | .function => true | _ => false) && (!scope.isCoroutine && (!scope.isGenerator && scope.names.all fun y => (match y.2 with
    | .cell => false
    | .local => decide (y.1 ∉ N)
    | .free => (match sc.names.lookup y.1 with | some .cell => true | some .free => true | _ => false)
    | _ => true)))
theorem lamSX_by {N : List Str} {sc scope : Scope} (h : lamSXB N sc scope = true) : LamSX N sc scope := by
  unfold lamSXB at h
  simp only [Bool.and_eq_true, Bool.not_eq_true', List.all_eq_true] at h
  obtain ⟨h1, h2, h3, h4⟩ := h
  refine ⟨?_, h2, h3, fun y hy => ⟨fun e => ?_, fun e => ?_⟩, fun y hy e => ?_⟩
  · split at h1
    · assumption
    · cases h1
  · have q := h4 y hy
    rw [e] at q; cases q
  · have q := h4 y hy
    rw [e] at q
    exact of_decide_eq_true q
  · have q := h4 y hy
    rw [e] at q
    have q : (match sc.names.lookup y.1 with | some .cell => true | some .free => true | _ => false) = true := q
    cases z : sc.names.lookup y.1 with
    | none => rw [z] at q; cases q
    | some k =>
      rw [z] at q
      cases k <;> first | exact .inl rfl | exact .inr rfl | cases q
/-! ### law -/
def pd_is_chain : List D → List D
  | [a0, a1] => [a1, a0]
  | l => l
def pd_steps_of : List D → List D
  | [a0, a1] => [a1, a0]
  | l => l
abbrev n_law : List Str := ["script", "pen", "turn", "plain", "query", "names", "table", "tree", "due", "row", "name", "at", "odd", "bad", "heard", "one"]
noncomputable def b_law : MS :=
    mSeq (mSet 1 (mCall c__law_pen [mV 0] []))
    (mSeq (mFor (.nm 2) (mRg1 (mC (.int 4)))
    (mSeq (mSet 3 (mCallIO c__law_plain 1 [mC (.int 5), mC (.int 2)] []))
    (mSeq (mUn (.tp [.nm 4, .nm 5]) (mTup [mCall c__law_query [mV 3] [], mLc (.nm 6) [6] (itSq (mO2 dgetP (.pl 3) (.ex (mC (.str "tables"))))) (mYes) (mO2 ixP (.pl 6) (.ex (mC (.int 0))))]))
    (mSeq (mSet 7 (mCallIO c__law_tree 1 [mV 5] []))
    (mSeq (mSet 8 (mO1 tupleP (.ex (mCall (c__law_steps 10) [mV 7] []))))
    (mSeq (mIfS (mOrT (mT (mRpr true (mCall c_steps_of [mV 4, mV 7] []) (mV 8))) (mOrT (mT (mO2 neP (.ex (mCallK c_steps_of [mV 7, mV 4] pd_steps_of)) (.pl 8))) (mT (mO2 neP (.ex (mO1 lenP (.pl 8))) (.ex (mO2 subP (.ex (mO1 lenP (.pl 5))) (.ex (mC (.int 1))))))))) (mRet (mC (.bl false))) (mNext))
    (mSeq (mIfS (mT (mRpr true (mLst [mCall c_is_chain [mV 4, mV 7] [], mCallK c_is_chain [mV 7, mV 4] pd_is_chain]) (mO2 repP (.ex (mLst [mCall (c__law_is_chain 10) [mV 7] []])) (.ex (mC (.int 2)))))) (mRet (mC (.bl false))) (mNext))
    (mSeq (mSet 9 (mO2 ixP (.pl 5) (.ex (mC (.int 0)))))
    (mSeq (mFor (.nm 10) (itSq (mSl (.pl 5) (some (mC (.int 1))) none))
    (mSet 9 (mTup [mV 9, mV 10])))
    (mSeq (mIfS (mOrT (mT (mO2 (isBP true) (.ex (mCall c_is_chain [mV 4, mV 9] [])) (.ex (mC (.bl true))))) (mT (mO2 neP (.ex (mCall c_steps_of [mV 4, mV 9] [])) (.ex (mO1 tupleP (.ex (mLc (.nm 11) [11] (mRg1 (mO2 subP (.ex (mO1 lenP (.pl 5))) (.ex (mC (.int 1))))) (mYes) (mO1 tupleP (.ex (mO1 sortQ (.ex (mSl (.pl 5) none (some (mO2 addP (.pl 11) (.ex (mC (.int 2))))))))))))))))) (mRet (mC (.bl false))) (mNext))
    (mSeq (mUn (.tp [.nm 12, .nm 13]) (mTup [mCallIO c__law_pick 1 [mLst [mC .non, mC (.int 5), mO2 dgetP (.pl 3) (.ex (mC (.str "tables"))), mC (.str "query"), mTup []]] [], mCallIO c__law_bent 1 [mV 5, mV 7] []]))
    (mSeq (mSet 14 (mLst [mHeard hv__law_heard (mCall c_steps_of [mV 12, mV 13] []), mHeard hv__law_heard (mCall c_is_chain [mV 12, mV 13] []), mHeard hv__law_heard (mCall c_steps_of [mV 4, mV 13] [])]))
    (mSeq (mIfS (mT (mO2 neP (.ex (mO2 addP (.pl 14) (.ex (mLst [mHeard hv__law_heard (mCall c_is_chain [mV 4, mV 13] [])])))) (.ex (mO2 addP (.ex (mO2 repP (.ex (mLst [mTup [mC (.str "query"), mC (.str "query")]])) (.ex (mC (.int 2))))) (.ex (mO2 repP (.ex (mLst [mTup [mC (.str "order"), mC (.str "order")]])) (.ex (mC (.int 2))))))))) (mRet (mC (.bl false))) (mNext))
    (mIfS (mAndT (mT (mO2 eqP (.ex (mO1 lenP (.pl 5))) (.ex (mC (.int 3))))) (mT (mO2 neP (.ex (mO1 lenP (.ex (mLc (.nm 15) [15] (itSq (mCall (c__law_trees 5) [mO1 tupleP (.pl 5)] [])) (mT (mO2 neP (.ex (mO2 ixP (.ex (mO1 sortDP (.ex (mCall c_steps_of [mV 4, mV 15] [])))) (.ex (mC (.int 0))))) (.ex (mTup [])))) (mV 15))))) (.ex (mC (.int 3)))))) (mRet (mC (.bl false))) (mNext)))))))))))))))
    (mRet (mC (.bl true))))
theorem sc_law : FnScope n_law ["script"] (defScope s_law) := ⟨rfl, rfl, rfl, by decide +kernel, rfl, by decide +kernel, by decide +kernel⟩
abbrev lamQ : Str := (envOfC "law" (defScope s_law) 0 0 Value.none).qual ++ "<lambda>"
theorem dss_law {P : Program} {w : World} {K : PySem.W.Frag} {mg : Str → Option Value} {base : Heap} {CA : Nat → Addr} {CM c Pt P2 : Addr} {fI : Nat → Addr} (hne : Pt ≠ P2) (T : Txt P K mg CA CM fI [(Pt, lamQ), (P2, lamB)]) (C_law_pen : Cal P w K mg base (ctx K CA [(Pt, lamQ), (P2, lamB)]) "_law_pen" false 1 2 c__law_pen []) (C_law_plain : Cal P w K mg base (ctx K CA [(Pt, lamQ), (P2, lamB)]) "_law_plain" true 3 5 c__law_plain []) (C_law_query : Cal P w K mg base (ctx K CA [(Pt, lamQ), (P2, lamB)]) "_law_query" false 1 7 c__law_query []) (C_law_tree : Cal P w K mg base (ctx K CA [(Pt, lamQ), (P2, lamB)]) "_law_tree" true 2 4 c__law_tree []) (C_law_steps : Cal P w K mg base (ctx K CA [(Pt, lamQ), (P2, lamB)]) "_law_steps" false 1 21 (c__law_steps 10) []) (Csteps_of : Cal P w K mg base (ctx K CA [(Pt, lamQ), (P2, lamB)]) "steps_of" false 2 23 c_steps_of []) (Cis_chain : Cal P w K mg base (ctx K CA [(Pt, lamQ), (P2, lamB)]) "is_chain" false 2 23 c_is_chain []) (C_law_is_chain : Cal P w K mg base (ctx K CA [(Pt, lamQ), (P2, lamB)]) "_law_is_chain" false 1 11 (c__law_is_chain 10) []) (C_law_pick : Cal P w K mg base (ctx K CA [(Pt, lamQ), (P2, lamB)]) "_law_pick" true 2 3 c__law_pick []) (C_law_bent : Cal P w K mg base (ctx K CA [(Pt, lamQ), (P2, lamB)]) "_law_bent" true 3 4 c__law_bent []) (C_law_trees : Cal P w K mg base (ctx K CA [(Pt, lamQ), (P2, lamB)]) "_law_trees" false 1 8 (c__law_trees 5) []) (CK_is_chain : CalK P w K mg base (ctx K CA [(Pt, lamQ), (P2, lamB)]) "is_chain" 2 23 c_is_chain ["order", "query"] pd_is_chain) (CK_steps_of : CalK P w K mg base (ctx K CA [(Pt, lamQ), (P2, lamB)]) "steps_of" 2 23 c_steps_of ["order", "query"] pd_steps_of)
    (LH : Hrd K mg) (TB : TabB base mg c Pt) {f : Addr} {A : Around} {outer : List Env} {s : Shared} {H : Hp} {E : XK} (hr : Room 26 (A.deeper (envOfC "law" (defScope s_law) s.heap.objs.size f (.ref c)))) (hgu : (A.deeper (envOfC "law" (defScope s_law) s.heap.objs.size f (.ref c))).guards = some [])
    (tk : Takes (cxOf (L2.CX P w) P w K mg base n_law "law" (defScope s_law) f (.ref c) A outer s H E) (WD E)) :
    DSs (cxOf (L2.CX P w) P w K mg base n_law "law" (defScope s_law) f (.ref c) A outer s H E) (ctx K CA [(Pt, lamQ), (P2, lamB)]) (WD E) (defBody s_law) b_law :=
  have ND := sc_law.nd
  have hK : (ctx K CA [(Pt, lamQ), (P2, lamB)]).K = K := rfl
  have hmT : (Pt, (cxOf (L2.CX P w) P w K mg base n_law "law" (defScope s_law) f (.ref c) A outer s H E).env.qual ++ "<lambda>") ∈ [(Pt, lamQ), (P2, lamB)] := List.mem_cons_self
  have hu : ∀ p ∈ [(Pt, lamQ), (P2, lamB)], p.1 = Pt → p.2 = (cxOf (L2.CX P w) P w K mg base n_law "law" (defScope s_law) f (.ref c) A outer s H E).env.qual ++ "<lambda>" := fun p hp e => by
    rcases List.mem_cons.mp hp with rfl | h
    · rfl
    · rw [List.mem_singleton] at h
      subst h
      exact absurd e.symm hne
  dss_cons (ds_set ND rfl (.inl rfl) (de_cal C_law_pen hr (by decide) rfl tk (da_cons (de_v (pv 0)) (da_nil)) rfl))
    (dss_cons (ds_for (passes_of rfl) rfl (di_rg1 rfl T.n_range (de_int)) (dg_nm ND rfl (.inl rfl))
    (dss_cons (ds_set ND rfl (.inl rfl) (de_calIO C_law_plain hr (by decide) rfl tk (pv 1) (da_cons (de_int) (da_cons (de_int) (da_nil))) rfl))
    (dss_cons (ds_un (de_tup (da_cons (de_cal C_law_query hr (by decide) rfl tk (da_cons (de_v (pv 3)) (da_nil)) rfl) (da_cons (de_lc (own := [("table", 6)]) rfl ND (di_sqQ hK (de_dget (un1 hr) (pv 3) (de_str))) (by rfl) (fun _ _ _ _ _ => dg_nm ND rfl (.inl rfl)) (fun _ _ _ _ _ => dts_nil) (fun _ _ _ _ _ => de_ix ix_seq (ixP_ok hK) (pv 6) (de_int))) (da_nil)))) (dg_tp hK rfl (dgs_cons (dg_nm ND rfl (.inr rfl)) (dgs_cons (dg_nm ND rfl (.inr rfl)) (dgs_nil)))))
    (dss_cons (ds_set ND rfl (.inl rfl) (de_calIO C_law_tree hr (by decide) rfl tk (pv 1) (da_cons (de_v (pv 5)) (da_nil)) rfl))
    (dss_cons (ds_set ND rfl (.inl rfl) (de_t1 call_tuple_of (tupleP_ok hK) rfl T.n_tuple (by decide +kernel) (de_cal C_law_steps hr (by decide) rfl tk (da_cons (de_v (pv 7)) (da_nil)) rfl)))
    (dss_cons (ds_if (dt_w (dw_or (dt_rpr (neg := true) rfl hK hgu (un66 hr) rfl T.n_repr (de_cal Csteps_of hr (by decide) rfl tk (da_cons (de_v (pv 4)) (da_cons (de_v (pv 7)) (da_nil))) rfl) (de_v (pv 8))) (dw_or (dt_cmp (op_neD (un64 hr)) (neP_ok hK) (de_calK CK_steps_of hr (by decide) tk (dk_cons (de_v (pv 7)) (dk_cons (de_v (pv 4)) (dk_nil)))) (pv 8) (nomark _)) (dw_or1 (dt_cmp (op_neD (un64 hr)) (neP_ok hK) (de_b1 call_len (lenP_ok hK) rfl T.n_len (by decide +kernel) (pv 8)) (de_op op_sub (intP0_ok) (de_b1 call_len (lenP_ok hK) rfl T.n_len (by decide +kernel) (pv 5)) (de_int)) (nomark _)))))) (dss_one (ds_ret (de_bl))) (dss_nil))
    (dss_cons (ds_if (dt_rpr (neg := true) rfl hK hgu (un66 hr) rfl T.n_repr (de_lst (da_cons (de_cal Cis_chain hr (by decide) rfl tk (da_cons (de_v (pv 4)) (da_cons (de_v (pv 7)) (da_nil))) rfl) (da_cons (de_calK CK_is_chain hr (by decide) tk (dk_cons (de_v (pv 7)) (dk_cons (de_v (pv 4)) (dk_nil)))) (da_nil)))) (de_op op_rep repP_ok (de_lst (da_cons (de_cal C_law_is_chain hr (by decide) rfl tk (da_cons (de_v (pv 7)) (da_nil)) rfl) (da_nil))) (de_int))) (dss_one (ds_ret (de_bl))) (dss_nil))
    (dss_cons (ds_set ND rfl (.inl rfl) (de_ix ix_seq (ixP_ok hK) (pv 5) (de_int)))
    (dss_cons (ds_for (passes_of rfl) rfl (di_sqQ hK (de_slice hK (pv 5) (dpo_some (de_int)) dpo_none)) (dg_nm ND rfl (.inl rfl))
    (dss_one (ds_set ND rfl (.inl rfl) (de_tup (da_cons (de_v (pv 9)) (da_cons (de_v (pv 10)) (da_nil)))))))
    (dss_cons (ds_if (dt_w (dw_or (dt_cmp op_notBl isNotBP_ok (de_cal Cis_chain hr (by decide) rfl tk (da_cons (de_v (pv 4)) (da_cons (de_v (pv 9)) (da_nil))) rfl) (de_bl) (nomark _)) (dw_or1 (dt_cmp (op_neD (un64 hr)) (neP_ok hK) (de_cal Csteps_of hr (by decide) rfl tk (da_cons (de_v (pv 4)) (da_cons (de_v (pv 9)) (da_nil))) rfl) (de_t1 call_tuple_of (tupleP_ok hK) rfl T.n_tuple (by decide +kernel) (de_lc (own := [("at", 11)]) rfl ND (di_rg1 rfl T.n_range (de_op op_sub (intP0_ok) (de_b1 call_len (lenP_ok hK) rfl T.n_len (by decide +kernel) (pv 5)) (de_int))) (by rfl) (fun _ _ _ _ _ => dg_nm ND rfl (.inl rfl)) (fun _ _ _ _ _ => dts_nil) (fun _ _ _ _ _ => de_t1 call_tuple_of (tupleP_ok hK) rfl T.n_tuple (by decide +kernel) (de_b1 cr_sortQ (sortQ_ok hK) rfl T.n_sorted (by decide +kernel) (de_slice hK (pv 5) dpo_none (dpo_some (de_op op_addAll (addP_ok hK) (pv 11) (de_int)))))))) (nomark _))))) (dss_one (ds_ret (de_bl))) (dss_nil))
    (dss_cons (ds_un (de_tup (da_cons (de_calIO C_law_pick hr (by decide) rfl tk (pv 1) (da_cons (de_lst (da_cons (de_non) (da_cons (de_int) (da_cons (de_dget (un1 hr) (pv 3) (de_str)) (da_cons (de_str) (da_cons (de_tup (da_nil)) (da_nil))))))) (da_nil)) rfl) (da_cons (de_calIO C_law_bent hr (by decide) rfl tk (pv 1) (da_cons (de_v (pv 5)) (da_cons (de_v (pv 7)) (da_nil))) rfl) (da_nil)))) (dg_tp hK rfl (dgs_cons (dg_nm ND rfl (.inr rfl)) (dgs_cons (dg_nm ND rfl (.inr rfl)) (dgs_nil)))))
    (dss_cons (ds_set ND rfl (.inl rfl) (de_lst (da_cons (heard__law_heard T TB rfl LH hmT hu hr tk rfl (io := none) (lamSX_by (by rfl)) (by rfl) (by intro s q cl dV pm cdv ct h; subst h; exact ⟨[], BindsTo.of_eq rfl, fun y hy => by cases hy⟩) (fun A outer s H E f c' hr tk => de_cal Csteps_of hr (by decide) rfl tk (da_cons (de_v (pv 12)) (da_cons (de_v (pv 13)) (da_nil))) rfl)) (da_cons (heard__law_heard T TB rfl LH hmT hu hr tk rfl (io := (some 0)) (lamSX_by (by rfl)) (by exact ⟨_, _, rfl⟩) (by rintro s q cl dV pm cdv ct ⟨T, t, rfl, ho⟩; exact ⟨_, BindsTo.of_defaults rfl ho rfl rfl rfl, fun y hy => by rcases List.mem_cons.mp hy with rfl | hy; rfl; cases hy⟩) (fun A outer s H E f c' hr tk => de_cal Cis_chain hr (by decide) rfl tk (da_cons (de_v (pv 12)) (da_cons (de_v (pv 13)) (da_nil))) rfl)) (da_cons (heard__law_heard T TB rfl LH hmT hu hr tk rfl (io := (some 0)) (lamSX_by (by rfl)) (by exact ⟨_, _, rfl⟩) (by rintro s q cl dV pm cdv ct ⟨T, t, rfl, ho⟩; exact ⟨_, BindsTo.of_defaults rfl ho rfl rfl rfl, fun y hy => by rcases List.mem_cons.mp hy with rfl | hy; rfl; cases hy⟩) (fun A outer s H E f c' hr tk => de_cal Csteps_of hr (by decide) rfl tk (da_cons (de_v (pv 4)) (da_cons (de_v (pv 13)) (da_nil))) rfl)) (da_nil))))))
    (dss_cons (ds_if (dt_cmp (op_neD (un64 hr)) (neP_ok hK) (de_op op_addAll (addP_ok hK) (pv 14) (de_lst (da_cons (heard__law_heard T TB rfl LH hmT hu hr tk rfl (io := none) (lamSX_by (by rfl)) (by rfl) (by intro s q cl dV pm cdv ct h; subst h; exact ⟨[], BindsTo.of_eq rfl, fun y hy => by cases hy⟩) (fun A outer s H E f c' hr tk => de_cal Cis_chain hr (by decide) rfl tk (da_cons (de_v (pv 4)) (da_cons (de_v (pv 13)) (da_nil))) rfl)) (da_nil)))) (de_op op_addAll (addP_ok hK) (de_op op_rep repP_ok (de_lst (da_cons (de_tup (da_cons (de_str) (da_cons (de_str) (da_nil)))) (da_nil))) (de_int)) (de_op op_rep repP_ok (de_lst (da_cons (de_tup (da_cons (de_str) (da_cons (de_str) (da_nil)))) (da_nil))) (de_int))) (nomark _)) (dss_one (ds_ret (de_bl))) (dss_nil))
    (dss_one (ds_if (dt_w (dw_and (dt_cmp (op_eqD (un64 hr)) (eqP_ok hK) (de_b1 call_len (lenP_ok hK) rfl T.n_len (by decide +kernel) (pv 5)) (de_int) (nomark _)) (dw_and1 (dt_cmp (op_neD (un64 hr)) (neP_ok hK) (de_b1 call_len (lenP_ok hK) rfl T.n_len (by decide +kernel) (de_lc (own := [("one", 15)]) rfl ND (di_sqQ hK (de_cal C_law_trees hr (by decide) rfl tk (da_cons (de_t1 call_tuple_of (tupleP_ok hK) rfl T.n_tuple (by decide +kernel) (pv 5)) (da_nil)) rfl)) (by rfl) (fun _ _ _ _ _ => dg_nm ND rfl (.inl rfl)) (fun _ _ _ _ _ => dts_one (dt_cmp (op_neD (un64 hr)) (neP_ok hK) (de_ix ix_seq (ixP_ok hK) (de_b1 (cr_sortD (un66 hr)) (sortDP_ok hK) rfl T.n_sorted (by decide +kernel) (de_cal Csteps_of hr (by decide) rfl LamX.takes0 (da_cons (de_v (pv 4)) (da_cons (de_v (pv 15)) (da_nil))) rfl)) (de_int)) (de_tup (da_nil)) (nomark _))) (fun _ _ _ _ _ => de_v (pv 15)))) (de_int) (nomark _))))) (dss_one (ds_ret (de_bl))) (dss_nil))))))))))))))))
    (dss_one (ds_ret (de_bl))))
end K39

set_option Elab.async false
set_option linter.all false
set_option maxRecDepth 100000
set_option maxHeartbeats 4000000
/-! K39C: the facts of law k39. Printed by k39c.py. -/
namespace K39
open PySem PySem.Spec PyProof.Rows L2 DL LamX
theorem inI {c : Nat} (h : [0, 1].contains c = true) : c = 0 ∨ c = 1 := by simpa using h
theorem inX {c : Nat} (h : [2, 3].contains c = true) : c = 2 ∨ c = 3 := by simpa using h
def CAof (l : List Addr) : Nat → Addr := fun i => l.getD i 0
/-- what the top has written, as found in K -/
structure FactsC (K : PySem.W.Frag) (CS : List Addr) (CM gB cB PB : Addr) : Prop where
  len : CS.length = 4
  c0 : PySem.W.nsIn K mainGlobals "Table" = some (some (.ref (CAof CS 0)))
  c1 : PySem.W.nsIn K mainGlobals "Query" = some (some (.ref (CAof CS 1)))
  c2 : PySem.W.nsIn K mainGlobals "BadQuery" = some (some (.ref (CAof CS 2)))
  c3 : PySem.W.nsIn K mainGlobals "BadOrder" = some (some (.ref (CAof CS 3)))
  cM : PySem.W.nsIn K mainGlobals "MostError" = some (some (.ref CM))
  z_len : PySem.W.nsIn K mainGlobals "len" = some none
  z_all : PySem.W.nsIn K mainGlobals "all" = some none
  z_sorted : PySem.W.nsIn K mainGlobals "sorted" = some none
  z_abs : PySem.W.nsIn K mainGlobals "abs" = some none
  z_zip : PySem.W.nsIn K mainGlobals "zip" = some none
  z_range : PySem.W.nsIn K mainGlobals "range" = some none
  z_repr : PySem.W.nsIn K mainGlobals "repr" = some none
  z_isinstance : PySem.W.nsIn K mainGlobals "isinstance" = some none
  z_sum : PySem.W.nsIn K mainGlobals "sum" = some none
  z_str : PySem.W.nsIn K mainGlobals "str" = some none
  z_list : PySem.W.nsIn K mainGlobals "list" = some none
  z_tuple : PySem.W.nsIn K mainGlobals "tuple" = some none
  z_int : PySem.W.nsIn K mainGlobals "int" = some none
  z_bool : PySem.W.nsIn K mainGlobals "bool" = some none
  z_dict : PySem.W.nsIn K mainGlobals "dict" = some none
  z_super : PySem.W.nsIn K mainGlobals "super" = some none
  v_LETTERS : ∃ t, PySem.W.nsIn K mainGlobals "LETTERS" = some (some (.str "abcdefghijklmnopqrstuvwxyz" t))
  v_MOST_SIGNS : ∃ t, PySem.W.nsIn K mainGlobals "MOST_SIGNS" = some (some (.int 8 t))
  v_MOST_COLUMNS : ∃ t, PySem.W.nsIn K mainGlobals "MOST_COLUMNS" = some (some (.int 5 t))
  v_MOST_TABLES : ∃ t, PySem.W.nsIn K mainGlobals "MOST_TABLES" = some (some (.int 8 t))
  v_KINDS : ∃ a, PySem.W.nsIn K mainGlobals "KINDS" = some (some (.ref a)) ∧ KTup K a [.str "heap", .str "set"]
  ins0 : InsK K (CAof CS 0)
  ins1 : InsK K (CAof CS 1)
  n_name : NoAttr K (CAof CS 0) "name"
  n_columns : NoAttr K (CAof CS 0) "columns"
  n_unique : NoAttr K (CAof CS 0) "unique"
  n_kind : NoAttr K (CAof CS 0) "kind"
  n_tables : NoAttr K (CAof CS 1) "tables"
  n_pairs : NoAttr K (CAof CS 1) "pairs"
  n_names : NoAttr K (CAof CS 1) "names"
  k_str_0 : PySem.W.kitOne K (.ref (CAof CS 0)) (.type "str") = some false
  k_list_0 : PySem.W.kitOne K (.ref (CAof CS 0)) (.type "list") = some false
  k_tuple_0 : PySem.W.kitOne K (.ref (CAof CS 0)) (.type "tuple") = some false
  k_int_0 : PySem.W.kitOne K (.ref (CAof CS 0)) (.type "int") = some false
  k_bool_0 : PySem.W.kitOne K (.ref (CAof CS 0)) (.type "bool") = some false
  k_own_0_0 : PySem.W.kitOne K (.ref (CAof CS 0)) (.ref (CAof CS 0)) = some true
  k_own_0_1 : PySem.W.kitOne K (.ref (CAof CS 0)) (.ref (CAof CS 1)) = some false
  k_NoneType0_0 : PySem.W.kitOne K (.type "NoneType") (.ref (CAof CS 0)) = some false
  k_bool0_0 : PySem.W.kitOne K (.type "bool") (.ref (CAof CS 0)) = some false
  k_int0_0 : PySem.W.kitOne K (.type "int") (.ref (CAof CS 0)) = some false
  k_str0_0 : PySem.W.kitOne K (.type "str") (.ref (CAof CS 0)) = some false
  k_tuple0_0 : PySem.W.kitOne K (.type "tuple") (.ref (CAof CS 0)) = some false
  k_list0_0 : PySem.W.kitOne K (.type "list") (.ref (CAof CS 0)) = some false
  k_dict0_0 : PySem.W.kitOne K (.type "dict") (.ref (CAof CS 0)) = some false
  k_str_1 : PySem.W.kitOne K (.ref (CAof CS 1)) (.type "str") = some false
  k_list_1 : PySem.W.kitOne K (.ref (CAof CS 1)) (.type "list") = some false
  k_tuple_1 : PySem.W.kitOne K (.ref (CAof CS 1)) (.type "tuple") = some false
  k_int_1 : PySem.W.kitOne K (.ref (CAof CS 1)) (.type "int") = some false
  k_bool_1 : PySem.W.kitOne K (.ref (CAof CS 1)) (.type "bool") = some false
  k_own_1_0 : PySem.W.kitOne K (.ref (CAof CS 1)) (.ref (CAof CS 0)) = some false
  k_own_1_1 : PySem.W.kitOne K (.ref (CAof CS 1)) (.ref (CAof CS 1)) = some true
  k_NoneType0_1 : PySem.W.kitOne K (.type "NoneType") (.ref (CAof CS 1)) = some false
  k_bool0_1 : PySem.W.kitOne K (.type "bool") (.ref (CAof CS 1)) = some false
  k_int0_1 : PySem.W.kitOne K (.type "int") (.ref (CAof CS 1)) = some false
  k_str0_1 : PySem.W.kitOne K (.type "str") (.ref (CAof CS 1)) = some false
  k_tuple0_1 : PySem.W.kitOne K (.type "tuple") (.ref (CAof CS 1)) = some false
  k_list0_1 : PySem.W.kitOne K (.type "list") (.ref (CAof CS 1)) = some false
  k_dict0_1 : PySem.W.kitOne K (.type "dict") (.ref (CAof CS 1)) = some false
  init0 : ∃ (fI0 : Addr) (fd : FuncData) (e : Addr), Mk K (CAof CS 0) fI0 ∧ KTup K e [] ∧ FunD K "__init__" "Table.__init__" (defArgs s_Table___init__) (defBody s_Table___init__) (defScope s_Table___init__) [.ref e, .str "heap"] [] fI0 fd
  init1 : ∃ (fI0 : Addr) (fd : FuncData), Mk K (CAof CS 1) fI0 ∧ Fun K "__init__" "Query.__init__" s_Query___init__ fI0 fd
  exc2 : ExcC K (CAof CS 2)
  exf2 : ExF K (CAof CS 2) "part"
  x_2_2 : PySem.W.kitOne K (.ref (CAof CS 2)) (.ref (CAof CS 2)) = some true
  x_2_3 : PySem.W.kitOne K (.ref (CAof CS 2)) (.ref (CAof CS 3)) = some false
  xm2 : PySem.W.exmOne K (.ref (CAof CS 2)) (.ref CM) = some true
  exc3 : ExcC K (CAof CS 3)
  exf3 : ExF K (CAof CS 3) "part"
  x_3_2 : PySem.W.kitOne K (.ref (CAof CS 3)) (.ref (CAof CS 2)) = some false
  x_3_3 : PySem.W.kitOne K (.ref (CAof CS 3)) (.ref (CAof CS 3)) = some true
  xm3 : PySem.W.exmOne K (.ref (CAof CS 3)) (.ref CM) = some true
  d_is_name : DefK K "is_name" s_is_name
  d_is_listed : DefK K "is_listed" s_is_listed
  d_ascends : DefK K "ascends" s_ascends
  d_are_unlike : DefK K "are_unlike" s_are_unlike
  d_are_names : DefK K "are_names" s_are_names
  d_are_tables : DefK K "are_tables" s_are_tables
  d_is_pair : DefK K "is_pair" s_is_pair
  d_need_query : DefK K "need_query" s_need_query
  d_names_in : DefK K "names_in" s_names_in
  d_is_order : DefK K "is_order" s_is_order
  d_need_order : DefK K "need_order" s_need_order
  d_lots_of : DefK K "lots_of" s_lots_of
  d_is_chained : DefK K "is_chained" s_is_chained
  d_steps_of : DefK K "steps_of" s_steps_of
  d_is_chain : DefK K "is_chain" s_is_chain
  d__law_pen : DefK K "_law_pen" s__law_pen
  d__law_draw : DefK K "_law_draw" s__law_draw
  d__law_pick : DefK K "_law_pick" s__law_pick
  d__law_words : DefK K "_law_words" s__law_words
  d__law_plain : DefK K "_law_plain" s__law_plain
  d__law_query : DefK K "_law_query" s__law_query
  d__law_lots : DefK K "_law_lots" s__law_lots
  d__law_trees : DefK K "_law_trees" s__law_trees
  d__law_in : DefK K "_law_in" s__law_in
  d__law_steps : DefK K "_law_steps" s__law_steps
  d__law_is_chain : DefK K "_law_is_chain" s__law_is_chain
  d__law_tree : DefK K "_law_tree" s__law_tree
  d__law_heard : DefK K "_law_heard" s__law_heard
  d__law_bent : DefK K "_law_bent" s__law_bent
  aB : PySem.W.nsIn K mainGlobals "by_names" = some (some (.ref gB))
  kB : PySem.W.keepIn K (.ref gB) = true
  lB : LawD K "by_names" s_by_names gB cB PB
theorem txt {P : Program} {K : PySem.W.Frag} {h : Heap} {mg : Str → Option Value} {CS : List Addr} {CM gB cB PB : Addr} {fI : Nat → Addr} {tt : List (Addr × Str)} (X : K.In h) (N : h.Ns mainGlobals mg) (F : FactsC K CS CM gB cB PB) (hx2 : ExT P K mg (CAof CS 2) (fI 2) "part") (hx3 : ExT P K mg (CAof CS 3) (fI 3) "part") : Txt P K mg (CAof CS) CM fI tt where
  n_len := PySem.W.mg_none_of X N F.z_len
  n_all := PySem.W.mg_none_of X N F.z_all
  n_sorted := PySem.W.mg_none_of X N F.z_sorted
  n_abs := PySem.W.mg_none_of X N F.z_abs
  n_zip := PySem.W.mg_none_of X N F.z_zip
  n_range := PySem.W.mg_none_of X N F.z_range
  n_repr := PySem.W.mg_none_of X N F.z_repr
  n_isinstance := PySem.W.mg_none_of X N F.z_isinstance
  n_sum := PySem.W.mg_none_of X N F.z_sum
  n_str := PySem.W.mg_none_of X N F.z_str
  n_list := PySem.W.mg_none_of X N F.z_list
  n_tuple := PySem.W.mg_none_of X N F.z_tuple
  n_int := PySem.W.mg_none_of X N F.z_int
  n_bool := PySem.W.mg_none_of X N F.z_bool
  n_dict := PySem.W.mg_none_of X N F.z_dict
  v_LETTERS := let ⟨t, h⟩ := F.v_LETTERS; ⟨t, PySem.W.mg_of X N h⟩
  v_MOST_SIGNS := let ⟨t, h⟩ := F.v_MOST_SIGNS; ⟨t, PySem.W.mg_of X N h⟩
  v_MOST_COLUMNS := let ⟨t, h⟩ := F.v_MOST_COLUMNS; ⟨t, PySem.W.mg_of X N h⟩
  v_MOST_TABLES := let ⟨t, h⟩ := F.v_MOST_TABLES; ⟨t, PySem.W.mg_of X N h⟩
  v_KINDS := let ⟨a, h, k⟩ := F.v_KINDS; ⟨a, PySem.W.mg_of X N h, k⟩
  ins := fun c hc => by
    rcases inI hc with rfl | rfl
    · exact F.ins0
    · exact F.ins1
  k_str := kit_blt rfl fun c hc => by
    rcases inI hc with rfl | rfl
    · exact F.k_str_0
    · exact F.k_str_1
  k_list := kit_blt rfl fun c hc => by
    rcases inI hc with rfl | rfl
    · exact F.k_list_0
    · exact F.k_list_1
  k_tuple := kit_blt rfl fun c hc => by
    rcases inI hc with rfl | rfl
    · exact F.k_tuple_0
    · exact F.k_tuple_1
  k_int := kit_blt rfl fun c hc => by
    rcases inI hc with rfl | rfl
    · exact F.k_int_0
    · exact F.k_int_1
  k_bool := kit_blt rfl fun c hc => by
    rcases inI hc with rfl | rfl
    · exact F.k_bool_0
    · exact F.k_bool_1
  k_Table := kit_own (fun c hc => by
    rcases inI hc with rfl | rfl
    · exact F.k_own_0_0
    · exact F.k_own_1_0) fun T hT => by
    simp only [List.mem_cons, List.not_mem_nil, or_false] at hT
    rcases hT with rfl | rfl | rfl | rfl | rfl | rfl | rfl
    · exact F.k_NoneType0_0
    · exact F.k_bool0_0
    · exact F.k_int0_0
    · exact F.k_str0_0
    · exact F.k_tuple0_0
    · exact F.k_list0_0
    · exact F.k_dict0_0
  k_Query := kit_own (fun c hc => by
    rcases inI hc with rfl | rfl
    · exact F.k_own_0_1
    · exact F.k_own_1_1) fun T hT => by
    simp only [List.mem_cons, List.not_mem_nil, or_false] at hT
    rcases hT with rfl | rfl | rfl | rfl | rfl | rfl | rfl
    · exact F.k_NoneType0_1
    · exact F.k_bool0_1
    · exact F.k_int0_1
    · exact F.k_str0_1
    · exact F.k_tuple0_1
    · exact F.k_list0_1
    · exact F.k_dict0_1
  g_Table := PySem.W.mg_of X N F.c0
  g_Query := PySem.W.mg_of X N F.c1
  g_BadQuery := PySem.W.mg_of X N F.c2
  g_BadOrder := PySem.W.mg_of X N F.c3
  g_MostError := PySem.W.mg_of X N F.cM
  f_name := fun c j h => by
    unfold ix_name at h
    split at h
    · cases h
      exact ⟨F.ins0.cl, F.n_name, rfl, (by decide : (fieldsOf 0).Nodup)⟩
    · cases h
  f_columns := fun c j h => by
    unfold ix_columns at h
    split at h
    · cases h
      exact ⟨F.ins0.cl, F.n_columns, rfl, (by decide : (fieldsOf 0).Nodup)⟩
    · cases h
  f_unique := fun c j h => by
    unfold ix_unique at h
    split at h
    · cases h
      exact ⟨F.ins0.cl, F.n_unique, rfl, (by decide : (fieldsOf 0).Nodup)⟩
    · cases h
  f_kind := fun c j h => by
    unfold ix_kind at h
    split at h
    · cases h
      exact ⟨F.ins0.cl, F.n_kind, rfl, (by decide : (fieldsOf 0).Nodup)⟩
    · cases h
  f_tables := fun c j h => by
    unfold ix_tables at h
    split at h
    · cases h
      exact ⟨F.ins1.cl, F.n_tables, rfl, (by decide : (fieldsOf 1).Nodup)⟩
    · cases h
  f_pairs := fun c j h => by
    unfold ix_pairs at h
    split at h
    · cases h
      exact ⟨F.ins1.cl, F.n_pairs, rfl, (by decide : (fieldsOf 1).Nodup)⟩
    · cases h
  f_names := fun c j h => by
    unfold ix_names at h
    split at h
    · cases h
      exact ⟨F.ins1.cl, F.n_names, rfl, (by decide : (fieldsOf 1).Nodup)⟩
    · cases h
  x_BadQuery := hx2
  x_BadOrder := hx3
  xk := fun c hc k hk => by
    rcases inX hc with rfl | rfl <;> rcases inX hk with rfl | rfl
    · exact ⟨F.exc2, F.x_2_2⟩
    · exact ⟨F.exc3, F.x_3_2⟩
    · exact ⟨F.exc2, F.x_2_3⟩
    · exact ⟨F.exc3, F.x_3_3⟩
  fx_part := fun c j h => by
    unfold ix_x_part at h
    split at h
    · cases h
      exact ⟨F.exf2, rfl, (by decide : (fieldsOf 2).Nodup)⟩
    · cases h
      exact ⟨F.exf3, rfl, (by decide : (fieldsOf 3).Nodup)⟩
    · cases h
  hs_MostError := fun c b h => by
    unfold hs_MostError at h
    split at h
    · cases h
      exact F.xm2
    · cases h
      exact F.xm3
    · cases h
theorem body_ok {P : Program} {w : World} {K : PySem.W.Frag} {h : Heap} {mg : Str → Option Value} {CS : List Addr} {CM gB cB PB c Pt : Addr} {fI : Nat → Addr} (X : K.In h) (N : h.Ns mainGlobals mg) (F : FactsC K CS CM gB cB PB) (hne : Pt ≠ PB) (hx2 : ExT P K mg (CAof CS 2) (fI 2) "part") (hx3 : ExT P K mg (CAof CS 3) (fI 3) "part") {base : Heap} (TB : TabB base mg c Pt) (TBB : TabB base mg cB PB) {f : Addr} {A : Around} {outer : List Env} {s : Shared} {H : Hp} {E : XK} (hr : Room 26 (A.deeper (envOfC "law" (defScope s_law) s.heap.objs.size f (.ref c)))) (hgu : (A.deeper (envOfC "law" (defScope s_law) s.heap.objs.size f (.ref c))).guards = some [])
    (tk : Takes (cxOf (L2.CX P w) P w K mg base n_law "law" (defScope s_law) f (.ref c) A outer s H E) (WD E)) :
    DSs (cxOf (L2.CX P w) P w K mg base n_law "law" (defScope s_law) f (.ref c) A outer s H E) (ctx K (CAof CS) [(Pt, lamQ), (PB, lamB)]) (WD E) (defBody s_law) b_law := by
  have T : Txt P K mg (CAof CS) CM fI [(Pt, lamQ), (PB, lamB)] := txt X N F hx2 hx3
  have Cis_name : Cal P w K mg base (ctx K (CAof CS) [(Pt, lamQ), (PB, lamB)]) "is_name" false 1 2 c_is_name [] := calOf (ps := ["value"]) X N F.d_is_name (fun f fd D => D.binds (ps := ["value"]) fun _ _ _ _ _ _ us hl => match us, hl with | [_], _ => rfl) fun f fd D => ok_is_name T  D
  have Cis_listed : Cal P w K mg base (ctx K (CAof CS) [(Pt, lamQ), (PB, lamB)]) "is_listed" false 1 2 c_is_listed [] := calOf (ps := ["value"]) X N F.d_is_listed (fun f fd D => D.binds (ps := ["value"]) fun _ _ _ _ _ _ us hl => match us, hl with | [_], _ => rfl) fun f fd D => ok_is_listed T  D
  have Cascends : Cal P w K mg base (ctx K (CAof CS) [(Pt, lamQ), (PB, lamB)]) "ascends" false 1 2 c_ascends [] := calOf (ps := ["some"]) X N F.d_ascends (fun f fd D => D.binds (ps := ["some"]) fun _ _ _ _ _ _ us hl => match us, hl with | [_], _ => rfl) fun f fd D => ok_ascends T  D
  have Care_unlike : Cal P w K mg base (ctx K (CAof CS) [(Pt, lamQ), (PB, lamB)]) "are_unlike" false 1 3 c_are_unlike [] := calOf (ps := ["some"]) X N F.d_are_unlike (fun f fd D => D.binds (ps := ["some"]) fun _ _ _ _ _ _ us hl => match us, hl with | [_], _ => rfl) fun f fd D => ok_are_unlike T Cascends D
  have Care_names : Cal P w K mg base (ctx K (CAof CS) [(Pt, lamQ), (PB, lamB)]) "are_names" false 3 4 c_are_names [] := calOf (ps := ["value", "least", "most"]) X N F.d_are_names (fun f fd D => D.binds (ps := ["value", "least", "most"]) fun _ _ _ _ _ _ us hl => match us, hl with | [_, _, _], _ => rfl) fun f fd D => ok_are_names T Cis_listed Cis_name Care_unlike D
  obtain ⟨fI0, fd0, e0, M0, ke, FD⟩ := F.init0
  have G0 := ok_Table___init__ (base := base) (w := w) T Cis_name Care_names FD
  obtain ⟨ds5, r5, b5⟩ := FD.binds1 (ps := ["self", "name", "columns", "unique", "kind"]) 5 2 (by simp) rfl fun _ _ _ _ _ _ _ us its h1 h2 => match us, its, h1, h2 with | [_, _, _, _, _], [_, _], _, _ => ⟨_, rfl, rfl⟩
  have CTable___init__ : Mak P w K mg base (ctx K (CAof CS) [(Pt, lamQ), (PB, lamB)]) "Table" 0 5 5 c_Table___init__ [] := ⟨⟨fI0, fd0, _, _, ds5, M0, G0, T.g_Table, rfl, b5, r5, rfl, fun _ _ => .nil⟩⟩
  have Care_tables : Cal P w K mg base (ctx K (CAof CS) [(Pt, lamQ), (PB, lamB)]) "are_tables" false 2 3 c_are_tables [] := calOf (ps := ["value", "most"]) X N F.d_are_tables (fun f fd D => D.binds (ps := ["value", "most"]) fun _ _ _ _ _ _ us hl => match us, hl with | [_, _], _ => rfl) fun f fd D => ok_are_tables T Cis_listed D
  obtain ⟨fdB, FB, bB⟩ := ok_by_names (base := base) (w := w) T  F.lB TBB (List.mem_cons_of_mem _ List.mem_cons_self) fun p hp e => by
    rcases List.mem_cons.mp hp with rfl | hp
    · exact absurd e hne
    · rw [List.mem_singleton] at hp
      subst hp
      rfl
  have Cby_names : Cal P w K mg base (ctx K (CAof CS) [(Pt, lamQ), (PB, lamB)]) "by_names" false 1 2 c_by_names [] := ⟨gB, fdB, ["tables"], [], [], FB, PySem.W.mg_of X N F.aB, F.kB, bB, .nil, rfl, fun _ _ => .nil⟩
  have Cis_pair : Cal P w K mg base (ctx K (CAof CS) [(Pt, lamQ), (PB, lamB)]) "is_pair" false 2 3 c_is_pair [] := calOf (ps := ["value", "homes"]) X N F.d_is_pair (fun f fd D => D.binds (ps := ["value", "homes"]) fun _ _ _ _ _ _ us hl => match us, hl with | [_, _], _ => rfl) fun f fd D => ok_is_pair T Cis_listed Cis_name D
  obtain ⟨fI1, fd1, M1, FQ⟩ := F.init1
  have G1 := ok_Query___init__ (base := base) (w := w) T Care_tables Cis_listed Cis_pair Cby_names FQ
  have CQuery___init__ : Mak P w K mg base (ctx K (CAof CS) [(Pt, lamQ), (PB, lamB)]) "Query" 1 3 5 c_Query___init__ [] := ⟨⟨fI1, fd1, ["self", "tables", "pairs"], [], [], M1, G1, T.g_Query, rfl, FQ.binds (ps := ["self", "tables", "pairs"]) fun _ _ _ _ _ _ us hl => match us, hl with | [_, _, _], _ => rfl, .nil, rfl, fun _ _ => .nil⟩⟩
  have Cneed_query : Cal P w K mg base (ctx K (CAof CS) [(Pt, lamQ), (PB, lamB)]) "need_query" false 1 2 c_need_query [] := calOf (ps := ["query"]) X N F.d_need_query (fun f fd D => D.binds (ps := ["query"]) fun _ _ _ _ _ _ us hl => match us, hl with | [_], _ => rfl) fun f fd D => ok_need_query T  D
  have Cnames_in : Cal P w K mg base (ctx K (CAof CS) [(Pt, lamQ), (PB, lamB)]) "names_in" false 1 12 (c_names_in 10) [] := calOfR (ps := ["value"]) X N F.d_names_in (fun f fd D => D.binds (ps := ["value"]) fun _ _ _ _ _ _ us hl => match us, hl with | [_], _ => rfl) fun f fd D hm hb => ok_names_in T Cis_listed D hm hb 10
  have Cis_order : Cal P w K mg base (ctx K (CAof CS) [(Pt, lamQ), (PB, lamB)]) "is_order" false 2 13 c_is_order [] := calOf (ps := ["query", "value"]) X N F.d_is_order (fun f fd D => D.binds (ps := ["query", "value"]) fun _ _ _ _ _ _ us hl => match us, hl with | [_, _], _ => rfl) fun f fd D => ok_is_order T Cnames_in D
  have Cneed_order : Cal P w K mg base (ctx K (CAof CS) [(Pt, lamQ), (PB, lamB)]) "need_order" false 2 14 c_need_order [] := calOf (ps := ["query", "order"]) X N F.d_need_order (fun f fd D => D.binds (ps := ["query", "order"]) fun _ _ _ _ _ _ us hl => match us, hl with | [_, _], _ => rfl) fun f fd D => ok_need_order T Cis_order D
  have Clots_of : Cal P w K mg base (ctx K (CAof CS) [(Pt, lamQ), (PB, lamB)]) "lots_of" false 1 22 (c_lots_of 10) [] := calOfR (ps := ["order"]) X N F.d_lots_of (fun f fd D => D.binds (ps := ["order"]) fun _ _ _ _ _ _ us hl => match us, hl with | [_], _ => rfl) fun f fd D hm hb => ok_lots_of T Cnames_in D hm hb 10
  have Cis_chained : Cal P w K mg base (ctx K (CAof CS) [(Pt, lamQ), (PB, lamB)]) "is_chained" false 1 11 (c_is_chained 10) [] := calOfR (ps := ["order"]) X N F.d_is_chained (fun f fd D => D.binds (ps := ["order"]) fun _ _ _ _ _ _ us hl => match us, hl with | [_], _ => rfl) fun f fd D hm hb => ok_is_chained T  D hm hb 10
  have Csteps_of : Cal P w K mg base (ctx K (CAof CS) [(Pt, lamQ), (PB, lamB)]) "steps_of" false 2 23 c_steps_of [] := calOf (ps := ["query", "order"]) X N F.d_steps_of (fun f fd D => D.binds (ps := ["query", "order"]) fun _ _ _ _ _ _ us hl => match us, hl with | [_, _], _ => rfl) fun f fd D => ok_steps_of T Cneed_query Cneed_order Clots_of D
  have Cis_chain : Cal P w K mg base (ctx K (CAof CS) [(Pt, lamQ), (PB, lamB)]) "is_chain" false 2 23 c_is_chain [] := calOf (ps := ["query", "order"]) X N F.d_is_chain (fun f fd D => D.binds (ps := ["query", "order"]) fun _ _ _ _ _ _ us hl => match us, hl with | [_, _], _ => rfl) fun f fd D => ok_is_chain T Cneed_query Cneed_order Cis_chained D
  have C_law_pen : Cal P w K mg base (ctx K (CAof CS) [(Pt, lamQ), (PB, lamB)]) "_law_pen" false 1 2 c__law_pen [] := calOf (ps := ["script"]) X N F.d__law_pen (fun f fd D => D.binds (ps := ["script"]) fun _ _ _ _ _ _ us hl => match us, hl with | [_], _ => rfl) fun f fd D => ok__law_pen T  D
  have C_law_draw : Cal P w K mg base (ctx K (CAof CS) [(Pt, lamQ), (PB, lamB)]) "_law_draw" true 2 2 c__law_draw [] := calOf (ps := ["pen", "most"]) X N F.d__law_draw (fun f fd D => D.binds (ps := ["pen", "most"]) fun _ _ _ _ _ _ us hl => match us, hl with | [_, _], _ => rfl) fun f fd D => ok__law_draw T  D
  have C_law_pick : Cal P w K mg base (ctx K (CAof CS) [(Pt, lamQ), (PB, lamB)]) "_law_pick" true 2 3 c__law_pick [] := calOf (ps := ["pen", "some"]) X N F.d__law_pick (fun f fd D => D.binds (ps := ["pen", "some"]) fun _ _ _ _ _ _ us hl => match us, hl with | [_, _], _ => rfl) fun f fd D => ok__law_pick T C_law_draw D
  have C_law_words : Cal P w K mg base (ctx K (CAof CS) [(Pt, lamQ), (PB, lamB)]) "_law_words" true 2 4 c__law_words [] := calOf (ps := ["pen", "many"]) X N F.d__law_words (fun f fd D => D.binds (ps := ["pen", "many"]) fun _ _ _ _ _ _ us hl => match us, hl with | [_, _], _ => rfl) fun f fd D => ok__law_words T C_law_pick C_law_draw D
  have C_law_plain : Cal P w K mg base (ctx K (CAof CS) [(Pt, lamQ), (PB, lamB)]) "_law_plain" true 3 5 c__law_plain [] := calOf (ps := ["pen", "most", "wide"]) X N F.d__law_plain (fun f fd D => D.binds (ps := ["pen", "most", "wide"]) fun _ _ _ _ _ _ us hl => match us, hl with | [_, _, _], _ => rfl) fun f fd D => ok__law_plain T C_law_draw C_law_words C_law_pick D
  have C_law_query : Cal P w K mg base (ctx K (CAof CS) [(Pt, lamQ), (PB, lamB)]) "_law_query" false 1 7 c__law_query [] := calOf (ps := ["plain"]) X N F.d__law_query (fun f fd D => D.binds (ps := ["plain"]) fun _ _ _ _ _ _ us hl => match us, hl with | [_], _ => rfl) fun f fd D => ok__law_query T CQuery___init__ CTable___init__ D
  have C_law_lots : Cal P w K mg base (ctx K (CAof CS) [(Pt, lamQ), (PB, lamB)]) "_law_lots" false 1 2 c__law_lots [] := calOf (ps := ["names"]) X N F.d__law_lots (fun f fd D => D.binds (ps := ["names"]) fun _ _ _ _ _ _ us hl => match us, hl with | [_], _ => rfl) fun f fd D => ok__law_lots T  D
  have C_law_trees : Cal P w K mg base (ctx K (CAof CS) [(Pt, lamQ), (PB, lamB)]) "_law_trees" false 1 8 (c__law_trees 5) [] := calOfR (ps := ["names"]) X N F.d__law_trees (fun f fd D => D.binds (ps := ["names"]) fun _ _ _ _ _ _ us hl => match us, hl with | [_], _ => rfl) fun f fd D hm hb => ok__law_trees T C_law_lots D hm hb 5
  have C_law_in : Cal P w K mg base (ctx K (CAof CS) [(Pt, lamQ), (PB, lamB)]) "_law_in" false 1 11 (c__law_in 10) [] := calOfR (ps := ["tree"]) X N F.d__law_in (fun f fd D => D.binds (ps := ["tree"]) fun _ _ _ _ _ _ us hl => match us, hl with | [_], _ => rfl) fun f fd D hm hb => ok__law_in T  D hm hb 10
  have C_law_steps : Cal P w K mg base (ctx K (CAof CS) [(Pt, lamQ), (PB, lamB)]) "_law_steps" false 1 21 (c__law_steps 10) [] := calOfR (ps := ["tree"]) X N F.d__law_steps (fun f fd D => D.binds (ps := ["tree"]) fun _ _ _ _ _ _ us hl => match us, hl with | [_], _ => rfl) fun f fd D hm hb => ok__law_steps T C_law_in D hm hb 10
  have C_law_is_chain : Cal P w K mg base (ctx K (CAof CS) [(Pt, lamQ), (PB, lamB)]) "_law_is_chain" false 1 11 (c__law_is_chain 10) [] := calOfR (ps := ["tree"]) X N F.d__law_is_chain (fun f fd D => D.binds (ps := ["tree"]) fun _ _ _ _ _ _ us hl => match us, hl with | [_], _ => rfl) fun f fd D hm hb => ok__law_is_chain T  D hm hb 10
  have C_law_tree : Cal P w K mg base (ctx K (CAof CS) [(Pt, lamQ), (PB, lamB)]) "_law_tree" true 2 4 c__law_tree [] := calOf (ps := ["pen", "names"]) X N F.d__law_tree (fun f fd D => D.binds (ps := ["pen", "names"]) fun _ _ _ _ _ _ us hl => match us, hl with | [_, _], _ => rfl) fun f fd D => ok__law_tree T C_law_draw C_law_pick D
  have C_law_bent : Cal P w K mg base (ctx K (CAof CS) [(Pt, lamQ), (PB, lamB)]) "_law_bent" true 3 4 c__law_bent [] := calOf (ps := ["pen", "names", "tree"]) X N F.d__law_bent (fun f fd D => D.binds (ps := ["pen", "names", "tree"]) fun _ _ _ _ _ _ us hl => match us, hl with | [_, _, _], _ => rfl) fun f fd D => ok__law_bent T C_law_pick D
  have CK_is_chain : CalK P w K mg base (ctx K (CAof CS) [(Pt, lamQ), (PB, lamB)]) "is_chain" 2 23 c_is_chain ["order", "query"] pd_is_chain := by
    obtain ⟨fk, fdk, ak, FK⟩ := F.d_is_chain.ex
    exact ⟨⟨fk, fdk, ["query", "order"], _, _, ok_is_chain T Cneed_query Cneed_order Cis_chained FK, PySem.W.mg_of X N ak, FK.kp, fun_kbn FK 0 ["order", "query"] gSwap gSwap_rel fun _ _ _ _ _ _ us ws h1 h2 => match us, ws, h1, h2 with | [], [_, _], _, _ => rfl, fun H S zs ds hl r => gSwap_rep (fun _ _ => rfl) hl r⟩⟩
  have CK_steps_of : CalK P w K mg base (ctx K (CAof CS) [(Pt, lamQ), (PB, lamB)]) "steps_of" 2 23 c_steps_of ["order", "query"] pd_steps_of := by
    obtain ⟨fk, fdk, ak, FK⟩ := F.d_steps_of.ex
    exact ⟨⟨fk, fdk, ["query", "order"], _, _, ok_steps_of T Cneed_query Cneed_order Clots_of FK, PySem.W.mg_of X N ak, FK.kp, fun_kbn FK 0 ["order", "query"] gSwap gSwap_rel fun _ _ _ _ _ _ us ws h1 h2 => match us, ws, h1, h2 with | [], [_, _], _, _ => rfl, fun H S zs ds hl r => gSwap_rep (fun _ _ => rfl) hl r⟩⟩
  obtain ⟨gh, fdh, ah, FH⟩ := F.d__law_heard.ex
  have LH : Hrd K mg := ⟨⟨gh, fdh, FH, PySem.W.mg_of X N ah, FH.binds (ps := ["ask"]) fun _ _ _ _ _ _ us hl => match us, hl with | [_], _ => rfl⟩⟩
  exact dss_law hne T C_law_pen C_law_plain C_law_query C_law_tree C_law_steps Csteps_of Cis_chain C_law_is_chain C_law_pick C_law_bent C_law_trees CK_is_chain CK_steps_of LH TB hr hgu tk
end K39

set_option Elab.async false
set_option linter.all false
set_option maxRecDepth 100000
set_option maxHeartbeats 4000000
/-! K39D: the end of law k39. Printed by k39d.py. -/
namespace K39
open PySem PySem.Spec PyProof.Rows L2 DL LamX
theorem exm_of {K : PySem.W.Frag} {C S : Addr} (h1 : PySem.W.subIn K (.ref S) (.type "BaseException") = some true) (h2 : PySem.W.isClsIn K S = true) (h3 : PySem.W.typeIn K (.ref S) = some (.type "type")) (h4 : PySem.W.subIn K (.ref C) (.ref S) = some true) :
    PySem.W.exmOne K (.ref C) (.ref S) = some true := by
  have e1 : (PySem.W.subIn K (.ref S) (.type "BaseException") == some true) = true := by rw [h1] <;> rfl
  have e2 : ((PySem.W.clsIn K S).isSome && PySem.W.typeIn K (.ref S) == some (.type "type")) = true := by
    have h2' : (PySem.W.clsIn K S).isSome = true := h2
    rw [h2', h3] <;> rfl
  show (if (PySem.W.subIn K (.ref S) (.type "BaseException") == some true) = true then (if ((PySem.W.clsIn K S).isSome && PySem.W.typeIn K (.ref S) == some (.type "type")) = true then PySem.W.subIn K (.ref C) (.ref S) else none) else none) = some true
  rw [if_pos e1, if_pos e2]
  exact h4
def XEv (f : Str) (q1 q2 q3 q4 q5 : Pos) : Prop := ∀ env : Env, ∃ pl : Sem Bool, eval (.Call (.Attribute (.Call (.Name "super" q1) [] [] q2) "__init__" q3) [.Name f q4] [] q5) env = (do
      let ov ← attributeBase (.Call (.Name "super" q1) [] [] q2) "__init__" env (eval (.Call (.Name "super" q1) [] [] q2) env)
      standAt q3.atName
      let (m, first) ← holding [ov] (getMethod ov "__init__" pl)
      callWith q5 m first (backTo q5 (starEach [.Name f q4] env)) [])
theorem all_mk {l : PySem.W.OpenLaw} {w : World} {P q : Program} {K : PySem.W.Frag} {h : Heap} {mg : Str → Option Value} {fa : Addr} (hP : l.prog = P) (X : K.In h) (N : h.Ns mainGlobals mg) (hfa : mg "law" = some (.ref fa))
    {C0 C1 C2 C3 CM aK fT0 fT1 dT e0 NX_2 fI_2 cc_2 cda_2 NX_3 fI_3 cc_3 cda_3 g_is_name g_is_listed g_ascends g_are_unlike g_are_names g_are_tables g_is_pair g_need_query g_names_in g_is_order g_need_order g_lots_of g_is_chained g_steps_of g_is_chain g__law_pen g__law_draw g__law_pick g__law_words g__law_plain g__law_query g__law_lots g__law_trees g__law_in g__law_steps g__law_is_chain g__law_tree g__law_heard g__law_bent gB cB PB gl cL Pt : Addr}
    {t_LETTERS t_MOST_SIGNS t_MOST_COLUMNS t_MOST_TABLES tK1 tK2 tD tfX_2 tfX_3 tfgB tggB ttgB tfgl tggl ttgl : Tok}
    {adK odfT0 anfT0 odfT1 anfT1 ddd edd ddX_2 cldc_2 cddX_2 odX_2 anX_2 ddX_3 cldc_3 cddX_3 odX_3 anX_3 odg_is_name ang_is_name odg_is_listed ang_is_listed odg_ascends ang_ascends odg_are_unlike ang_are_unlike odg_are_names ang_are_names odg_are_tables ang_are_tables odg_is_pair ang_is_pair odg_need_query ang_need_query odg_names_in ang_names_in odg_is_order ang_is_order odg_need_order ang_need_order odg_lots_of ang_lots_of odg_is_chained ang_is_chained odg_steps_of ang_steps_of odg_is_chain ang_is_chain odg__law_pen ang__law_pen odg__law_draw ang__law_draw odg__law_pick ang__law_pick odg__law_words ang__law_words odg__law_plain ang__law_plain odg__law_query ang__law_query odg__law_lots ang__law_lots odg__law_trees ang__law_trees odg__law_in ang__law_in odg__law_steps ang__law_steps odg__law_is_chain ang__law_is_chain odg__law_tree ang__law_tree odg__law_heard ang__law_heard odg__law_bent ang__law_bent odgB angB ddgB odgl angl ddgl : Option Addr}
    {itK itD itE vsX_2 vsX_3 vsgB vsgl : Array Value}
    {nK nD nE : Nat}
    {asK slfT0 slfT1 dsl esl cslc_2 ccsX_2 slX_2 cslc_3 ccsX_3 slX_3 slg_is_name slg_is_listed slg_ascends slg_are_unlike slg_are_names slg_are_tables slg_is_pair slg_need_query slg_names_in slg_is_order slg_need_order slg_lots_of slg_is_chained slg_steps_of slg_is_chain slg__law_pen slg__law_draw slg__law_pick slg__law_words slg__law_plain slg__law_query slg__law_lots slg__law_trees slg__law_in slg__law_steps slg__law_is_chain slg__law_tree slg__law_heard slg__law_bent slgB sogB slgl sogl : Array (Option Value)}
    {ocfT0 kVfT0 dcfT0 pmfT0 cdfT0 ctfT0 ocfT1 kVfT1 dcfT1 pmfT1 cdfT1 ctfT1 dcl clc_2 cclX_2 dcX_2 pmX_2 ctX_2 ocX_2 clc_3 cclX_3 dcX_3 pmX_3 ctX_3 ocX_3 ocg_is_name kVg_is_name dcg_is_name pmg_is_name cdg_is_name ctg_is_name ocg_is_listed kVg_is_listed dcg_is_listed pmg_is_listed cdg_is_listed ctg_is_listed ocg_ascends kVg_ascends dcg_ascends pmg_ascends cdg_ascends ctg_ascends ocg_are_unlike kVg_are_unlike dcg_are_unlike pmg_are_unlike cdg_are_unlike ctg_are_unlike ocg_are_names kVg_are_names dcg_are_names pmg_are_names cdg_are_names ctg_are_names ocg_are_tables kVg_are_tables dcg_are_tables pmg_are_tables cdg_are_tables ctg_are_tables ocg_is_pair kVg_is_pair dcg_is_pair pmg_is_pair cdg_is_pair ctg_is_pair ocg_need_query kVg_need_query dcg_need_query pmg_need_query cdg_need_query ctg_need_query ocg_names_in kVg_names_in dcg_names_in pmg_names_in cdg_names_in ctg_names_in ocg_is_order kVg_is_order dcg_is_order pmg_is_order cdg_is_order ctg_is_order ocg_need_order kVg_need_order dcg_need_order pmg_need_order cdg_need_order ctg_need_order ocg_lots_of kVg_lots_of dcg_lots_of pmg_lots_of cdg_lots_of ctg_lots_of ocg_is_chained kVg_is_chained dcg_is_chained pmg_is_chained cdg_is_chained ctg_is_chained ocg_steps_of kVg_steps_of dcg_steps_of pmg_steps_of cdg_steps_of ctg_steps_of ocg_is_chain kVg_is_chain dcg_is_chain pmg_is_chain cdg_is_chain ctg_is_chain ocg__law_pen kVg__law_pen dcg__law_pen pmg__law_pen cdg__law_pen ctg__law_pen ocg__law_draw kVg__law_draw dcg__law_draw pmg__law_draw cdg__law_draw ctg__law_draw ocg__law_pick kVg__law_pick dcg__law_pick pmg__law_pick cdg__law_pick ctg__law_pick ocg__law_words kVg__law_words dcg__law_words pmg__law_words cdg__law_words ctg__law_words ocg__law_plain kVg__law_plain dcg__law_plain pmg__law_plain cdg__law_plain ctg__law_plain ocg__law_query kVg__law_query dcg__law_query pmg__law_query cdg__law_query ctg__law_query ocg__law_lots kVg__law_lots dcg__law_lots pmg__law_lots cdg__law_lots ctg__law_lots ocg__law_trees kVg__law_trees dcg__law_trees pmg__law_trees cdg__law_trees ctg__law_trees ocg__law_in kVg__law_in dcg__law_in pmg__law_in cdg__law_in ctg__law_in ocg__law_steps kVg__law_steps dcg__law_steps pmg__law_steps cdg__law_steps ctg__law_steps ocg__law_is_chain kVg__law_is_chain dcg__law_is_chain pmg__law_is_chain cdg__law_is_chain ctg__law_is_chain ocg__law_tree kVg__law_tree dcg__law_tree pmg__law_tree cdg__law_tree ctg__law_tree ocg__law_heard kVg__law_heard dcg__law_heard pmg__law_heard cdg__law_heard ctg__law_heard ocg__law_bent kVg__law_bent dcg__law_bent pmg__law_bent cdg__law_bent ctg__law_bent ocgB kVgB dcgB pmgB ctgB ocgl kVgl dcgl pmgl ctgl : Value}
    {nmX_2 qX_2 flX_2 qlX_2 nmX_3 qX_3 flX_3 qlX_3 flgB flgl : Str}
    {bsX_2 bmX_2 subX_2 bsX_3 bmX_3 subX_3 : List Value}
    {snX_2 snX_3 : List Str}
    {abX_2 abX_3 ingB ingl : Bool}
    {colX_2 colX_3 : Option Bool}
    {m0_2 m1_2 m2_2 m3_2 m5_2 m0_3 m1_3 m2_3 m3_3 m5_3 : Option Value}
    {scX_2 scX_3 : Scope}
    {p1_2 p2_2 q1_2 q2_2 q3_2 q4_2 q5_2 q6_2 q7_2 q8_2 q9_2 q10_2 p1_3 p2_3 q1_3 q2_3 q3_3 q4_3 q5_3 q6_3 q7_3 q8_3 q9_3 q10_3 : Pos}
    {fggB txgB fggl txgl : Int}
    (c0 : PySem.W.nsIn K mainGlobals "Table" = some (some (.ref C0)))
    (c1 : PySem.W.nsIn K mainGlobals "Query" = some (some (.ref C1)))
    (c2 : PySem.W.nsIn K mainGlobals "BadQuery" = some (some (.ref C2)))
    (c3 : PySem.W.nsIn K mainGlobals "BadOrder" = some (some (.ref C3)))
    (cM : PySem.W.nsIn K mainGlobals "MostError" = some (some (.ref CM)))
    (z_len : PySem.W.nsIn K mainGlobals "len" = some none)
    (z_all : PySem.W.nsIn K mainGlobals "all" = some none)
    (z_sorted : PySem.W.nsIn K mainGlobals "sorted" = some none)
    (z_abs : PySem.W.nsIn K mainGlobals "abs" = some none)
    (z_zip : PySem.W.nsIn K mainGlobals "zip" = some none)
    (z_range : PySem.W.nsIn K mainGlobals "range" = some none)
    (z_repr : PySem.W.nsIn K mainGlobals "repr" = some none)
    (z_isinstance : PySem.W.nsIn K mainGlobals "isinstance" = some none)
    (z_sum : PySem.W.nsIn K mainGlobals "sum" = some none)
    (z_str : PySem.W.nsIn K mainGlobals "str" = some none)
    (z_list : PySem.W.nsIn K mainGlobals "list" = some none)
    (z_tuple : PySem.W.nsIn K mainGlobals "tuple" = some none)
    (z_int : PySem.W.nsIn K mainGlobals "int" = some none)
    (z_bool : PySem.W.nsIn K mainGlobals "bool" = some none)
    (z_dict : PySem.W.nsIn K mainGlobals "dict" = some none)
    (z_super : PySem.W.nsIn K mainGlobals "super" = some none)
    (v_LETTERS : PySem.W.nsIn K mainGlobals "LETTERS" = some (some (.str "abcdefghijklmnopqrstuvwxyz" t_LETTERS)))
    (v_MOST_SIGNS : PySem.W.nsIn K mainGlobals "MOST_SIGNS" = some (some (.int 8 t_MOST_SIGNS)))
    (v_MOST_COLUMNS : PySem.W.nsIn K mainGlobals "MOST_COLUMNS" = some (some (.int 5 t_MOST_COLUMNS)))
    (v_MOST_TABLES : PySem.W.nsIn K mainGlobals "MOST_TABLES" = some (some (.int 8 t_MOST_TABLES)))
    (v4 : PySem.W.nsIn K mainGlobals "KINDS" = some (some (.ref aK)))
    (v4l : K.lookup aK = some ⟨.type "tuple", adK, .seq itK nK, asK⟩)
    (v4i : itK.toList = [.str "heap" tK1, .str "set" tK2])
    (hn : PySem.W.specialIn K (.builtin "object.__class__") "__get__" = some (some (.builtin "getset_descriptor.__get__")))
    (ht : PySem.W.takesIn K (.builtin "object.__class__") = some true)
    (pg_0 : PySem.W.plainGet K C0 Str.empty = true)
    (hd_0 : PySem.W.hasDictIn K C0 = true)
    (po_0 : PySem.W.plainOver K C0 = true)
    (sa_0 : PySem.W.findIn K (.ref C0) "__setattr__" = some (some (.builtin "object.__setattr__")))
    (ha_0 : PySem.W.findIn K (.ref C0) "__class__" = some (some (.builtin "object.__class__")))
    (hm_0 : PySem.W.mroIn K C0 (.type "object") = some true)
    (n_name : PySem.W.findIn K (.ref C0) "name" = some none)
    (n_columns : PySem.W.findIn K (.ref C0) "columns" = some none)
    (n_unique : PySem.W.findIn K (.ref C0) "unique" = some none)
    (n_kind : PySem.W.findIn K (.ref C0) "kind" = some none)
    (k_str_0 : PySem.W.kitOne K (.ref C0) (.type "str") = some false)
    (k_list_0 : PySem.W.kitOne K (.ref C0) (.type "list") = some false)
    (k_tuple_0 : PySem.W.kitOne K (.ref C0) (.type "tuple") = some false)
    (k_int_0 : PySem.W.kitOne K (.ref C0) (.type "int") = some false)
    (k_bool_0 : PySem.W.kitOne K (.ref C0) (.type "bool") = some false)
    (k_own_0_0 : PySem.W.kitOne K (.ref C0) (.ref C0) = some true)
    (k_own_0_1 : PySem.W.kitOne K (.ref C0) (.ref C1) = some false)
    (k_NoneType0_0 : PySem.W.kitOne K (.type "NoneType") (.ref C0) = some false)
    (k_bool0_0 : PySem.W.kitOne K (.type "bool") (.ref C0) = some false)
    (k_int0_0 : PySem.W.kitOne K (.type "int") (.ref C0) = some false)
    (k_str0_0 : PySem.W.kitOne K (.type "str") (.ref C0) = some false)
    (k_tuple0_0 : PySem.W.kitOne K (.type "tuple") (.ref C0) = some false)
    (k_list0_0 : PySem.W.kitOne K (.type "list") (.ref C0) = some false)
    (k_dict0_0 : PySem.W.kitOne K (.type "dict") (.ref C0) = some false)
    (mk_0 : PySem.W.makesIn K C0 = true)
    (inf_0 : PySem.W.findIn K (.ref C0) "__init__" = some (some (.ref fT0)))
    (ini_0 : PySem.W.isFn K (.ref fT0) = true)
    (ink_0 : PySem.W.keepIn K (.ref C0) = true)
    (lfT0 : K.lookup fT0 = some ⟨ocfT0, odfT0, .func (PySem.W.fnOf "__init__" "Table.__init__" (defArgs s_Table___init__) (defBody s_Table___init__) (defScope s_Table___init__) (.ref dT) kVfT0 dcfT0 pmfT0 anfT0 cdfT0 ctfT0), slfT0⟩)
    (cofT0 : PySem.W.codeIn K cdfT0 "Table.__init__" = true)
    (kpfT0 : PySem.W.keepIn K (.ref fT0) = true)
    (pg_1 : PySem.W.plainGet K C1 Str.empty = true)
    (hd_1 : PySem.W.hasDictIn K C1 = true)
    (po_1 : PySem.W.plainOver K C1 = true)
    (sa_1 : PySem.W.findIn K (.ref C1) "__setattr__" = some (some (.builtin "object.__setattr__")))
    (ha_1 : PySem.W.findIn K (.ref C1) "__class__" = some (some (.builtin "object.__class__")))
    (hm_1 : PySem.W.mroIn K C1 (.type "object") = some true)
    (n_tables : PySem.W.findIn K (.ref C1) "tables" = some none)
    (n_pairs : PySem.W.findIn K (.ref C1) "pairs" = some none)
    (n_names : PySem.W.findIn K (.ref C1) "names" = some none)
    (k_str_1 : PySem.W.kitOne K (.ref C1) (.type "str") = some false)
    (k_list_1 : PySem.W.kitOne K (.ref C1) (.type "list") = some false)
    (k_tuple_1 : PySem.W.kitOne K (.ref C1) (.type "tuple") = some false)
    (k_int_1 : PySem.W.kitOne K (.ref C1) (.type "int") = some false)
    (k_bool_1 : PySem.W.kitOne K (.ref C1) (.type "bool") = some false)
    (k_own_1_0 : PySem.W.kitOne K (.ref C1) (.ref C0) = some false)
    (k_own_1_1 : PySem.W.kitOne K (.ref C1) (.ref C1) = some true)
    (k_NoneType0_1 : PySem.W.kitOne K (.type "NoneType") (.ref C1) = some false)
    (k_bool0_1 : PySem.W.kitOne K (.type "bool") (.ref C1) = some false)
    (k_int0_1 : PySem.W.kitOne K (.type "int") (.ref C1) = some false)
    (k_str0_1 : PySem.W.kitOne K (.type "str") (.ref C1) = some false)
    (k_tuple0_1 : PySem.W.kitOne K (.type "tuple") (.ref C1) = some false)
    (k_list0_1 : PySem.W.kitOne K (.type "list") (.ref C1) = some false)
    (k_dict0_1 : PySem.W.kitOne K (.type "dict") (.ref C1) = some false)
    (mk_1 : PySem.W.makesIn K C1 = true)
    (inf_1 : PySem.W.findIn K (.ref C1) "__init__" = some (some (.ref fT1)))
    (ini_1 : PySem.W.isFn K (.ref fT1) = true)
    (ink_1 : PySem.W.keepIn K (.ref C1) = true)
    (lfT1 : K.lookup fT1 = some ⟨ocfT1, odfT1, .func (PySem.W.fnOf "__init__" "Query.__init__" (defArgs s_Query___init__) (defBody s_Query___init__) (defScope s_Query___init__) .none kVfT1 dcfT1 pmfT1 anfT1 cdfT1 ctfT1), slfT1⟩)
    (cofT1 : PySem.W.codeIn K cdfT1 "Query.__init__" = true)
    (kpfT1 : PySem.W.keepIn K (.ref fT1) = true)
    (dl : K.lookup dT = some ⟨dcl, ddd, .seq itD nD, dsl⟩)
    (dli : itD = [.ref e0, .str "heap" tD].toArray)
    (el : K.lookup e0 = some ⟨.type "tuple", edd, .seq itE nE, esl⟩)
    (eli : itE.toList = [])
    (xm0 : PySem.W.subIn K (.ref CM) (.type "BaseException") = some true)
    (xm1 : PySem.W.isClsIn K CM = true)
    (xm2 : PySem.W.typeIn K (.ref CM) = some (.type "type"))
    (xop : PySem.W.nsIn K cStatics "thirdparty.any" = some none)
    (xtop : (P.main.scope.names.lookup ("super" : Str)).isSome = false)
    (xg_2 : PySem.W.findIn K (.ref C2) "__getattribute__" = some (some (.builtin "BaseException.__getattribute__")))
    (xk_2 : PySem.W.findIn K (.ref C2) "__getattr__" = some none)
    (xs_2 : PySem.W.subIn K (.ref C2) (.type "BaseException") = some true)
    (xd_2 : PySem.W.hasDictIn K C2 = true)
    (xa_2 : PySem.W.findIn K (.ref C2) "__class__" = some (some (.builtin "object.__class__")))
    (xo_2 : PySem.W.mroIn K C2 (.type "object") = some true)
    (xn_2 : PySem.W.findIn K (.ref C2) "part" = some none)
    (x_2_2 : PySem.W.kitOne K (.ref C2) (.ref C2) = some true)
    (x_2_3 : PySem.W.kitOne K (.ref C2) (.ref C3) = some false)
    (xm3_2 : PySem.W.subIn K (.ref C2) (.ref CM) = some true)
    (xL_2 : K.lookup C2 = some (excClassObj nmX_2 qX_2 C2 NX_2 bsX_2 bmX_2 true snX_2 subX_2 abX_2 colX_2 ddX_2 m0_2 m1_2 m2_2 m3_2 m5_2 "ValueError.__new__"))
    (xv_2 : HandSPX.refsVE bmX_2 = true)
    (xsa_2 : PySem.W.findIn K (.ref C2) "__setattr__" = some (some (.builtin "object.__setattr__")))
    (xi_2 : PySem.W.findIn K (.ref C2) "__init__" = some (some (.ref fI_2)))
    (xt_2 : PySem.W.typeIn K (.ref fI_2) = some (.type "function"))
    (xkC_2 : PySem.W.keepIn K (.ref C2) = true)
    (xty_2 : PySem.W.typeIn K (.ref C2) = some (.type "type"))
    (xve_2 : PySem.W.subIn K (.ref C2) (.type "ValueError") = some true)
    (xsu_2 : PySem.W.ks_superIn K C2 C2 "__init__" = some (some (.builtin "ValueError.__init__")))
    (xmr_2 : PySem.W.mroIn K C2 (.ref C2) = some true)
    (xfn_2 : K.lookup fI_2 = some ⟨ocX_2, odX_2, .func (PySem.W.ksFn "__init__" qlX_2 (xA "part" p1_2 p2_2) (xB "part" q1_2 q2_2 q3_2 q4_2 q5_2 q6_2 q7_2 q8_2 q9_2 q10_2) scX_2 .none .none dcX_2 pmX_2 anX_2 (.ref cda_2) ctX_2 cc_2), slX_2⟩)
    (xcc_2 : K.lookup cc_2 = some ⟨clc_2, cldc_2, .cell (some (.ref C2)), cslc_2⟩)
    (xcd_2 : K.lookup cda_2 = some ⟨cclX_2, cddX_2, .fields vsX_2, ccsX_2⟩)
    (xv2_2 : vsX_2[2]? = some (.str flX_2 tfX_2))
    (xfl_2 : ((P.main.file : Str) == flX_2) = true)
    (xco_2 : PySem.W.codeIn K (.ref cda_2) qlX_2 = true)
    (xsc_2 : XSc scX_2 "part")
    (xev_2 : XEv "part" q1_2 q2_2 q3_2 q4_2 q5_2)
    (xg_3 : PySem.W.findIn K (.ref C3) "__getattribute__" = some (some (.builtin "BaseException.__getattribute__")))
    (xk_3 : PySem.W.findIn K (.ref C3) "__getattr__" = some none)
    (xs_3 : PySem.W.subIn K (.ref C3) (.type "BaseException") = some true)
    (xd_3 : PySem.W.hasDictIn K C3 = true)
    (xa_3 : PySem.W.findIn K (.ref C3) "__class__" = some (some (.builtin "object.__class__")))
    (xo_3 : PySem.W.mroIn K C3 (.type "object") = some true)
    (xn_3 : PySem.W.findIn K (.ref C3) "part" = some none)
    (x_3_2 : PySem.W.kitOne K (.ref C3) (.ref C2) = some false)
    (x_3_3 : PySem.W.kitOne K (.ref C3) (.ref C3) = some true)
    (xm3_3 : PySem.W.subIn K (.ref C3) (.ref CM) = some true)
    (xL_3 : K.lookup C3 = some (excClassObj nmX_3 qX_3 C3 NX_3 bsX_3 bmX_3 true snX_3 subX_3 abX_3 colX_3 ddX_3 m0_3 m1_3 m2_3 m3_3 m5_3 "ValueError.__new__"))
    (xv_3 : HandSPX.refsVE bmX_3 = true)
    (xsa_3 : PySem.W.findIn K (.ref C3) "__setattr__" = some (some (.builtin "object.__setattr__")))
    (xi_3 : PySem.W.findIn K (.ref C3) "__init__" = some (some (.ref fI_3)))
    (xt_3 : PySem.W.typeIn K (.ref fI_3) = some (.type "function"))
    (xkC_3 : PySem.W.keepIn K (.ref C3) = true)
    (xty_3 : PySem.W.typeIn K (.ref C3) = some (.type "type"))
    (xve_3 : PySem.W.subIn K (.ref C3) (.type "ValueError") = some true)
    (xsu_3 : PySem.W.ks_superIn K C3 C3 "__init__" = some (some (.builtin "ValueError.__init__")))
    (xmr_3 : PySem.W.mroIn K C3 (.ref C3) = some true)
    (xfn_3 : K.lookup fI_3 = some ⟨ocX_3, odX_3, .func (PySem.W.ksFn "__init__" qlX_3 (xA "part" p1_3 p2_3) (xB "part" q1_3 q2_3 q3_3 q4_3 q5_3 q6_3 q7_3 q8_3 q9_3 q10_3) scX_3 .none .none dcX_3 pmX_3 anX_3 (.ref cda_3) ctX_3 cc_3), slX_3⟩)
    (xcc_3 : K.lookup cc_3 = some ⟨clc_3, cldc_3, .cell (some (.ref C3)), cslc_3⟩)
    (xcd_3 : K.lookup cda_3 = some ⟨cclX_3, cddX_3, .fields vsX_3, ccsX_3⟩)
    (xv2_3 : vsX_3[2]? = some (.str flX_3 tfX_3))
    (xfl_3 : ((P.main.file : Str) == flX_3) = true)
    (xco_3 : PySem.W.codeIn K (.ref cda_3) qlX_3 = true)
    (xsc_3 : XSc scX_3 "part")
    (xev_3 : XEv "part" q1_3 q2_3 q3_3 q4_3 q5_3)
    (a_is_name : PySem.W.nsIn K mainGlobals "is_name" = some (some (.ref g_is_name)))
    (lg_is_name : K.lookup g_is_name = some ⟨ocg_is_name, odg_is_name, .func (PySem.W.fnOf "is_name" "is_name" (defArgs s_is_name) (defBody s_is_name) (defScope s_is_name) .none kVg_is_name dcg_is_name pmg_is_name ang_is_name cdg_is_name ctg_is_name), slg_is_name⟩)
    (cog_is_name : PySem.W.codeIn K cdg_is_name "is_name" = true)
    (kpg_is_name : PySem.W.keepIn K (.ref g_is_name) = true)
    (a_is_listed : PySem.W.nsIn K mainGlobals "is_listed" = some (some (.ref g_is_listed)))
    (lg_is_listed : K.lookup g_is_listed = some ⟨ocg_is_listed, odg_is_listed, .func (PySem.W.fnOf "is_listed" "is_listed" (defArgs s_is_listed) (defBody s_is_listed) (defScope s_is_listed) .none kVg_is_listed dcg_is_listed pmg_is_listed ang_is_listed cdg_is_listed ctg_is_listed), slg_is_listed⟩)
    (cog_is_listed : PySem.W.codeIn K cdg_is_listed "is_listed" = true)
    (kpg_is_listed : PySem.W.keepIn K (.ref g_is_listed) = true)
    (a_ascends : PySem.W.nsIn K mainGlobals "ascends" = some (some (.ref g_ascends)))
    (lg_ascends : K.lookup g_ascends = some ⟨ocg_ascends, odg_ascends, .func (PySem.W.fnOf "ascends" "ascends" (defArgs s_ascends) (defBody s_ascends) (defScope s_ascends) .none kVg_ascends dcg_ascends pmg_ascends ang_ascends cdg_ascends ctg_ascends), slg_ascends⟩)
    (cog_ascends : PySem.W.codeIn K cdg_ascends "ascends" = true)
    (kpg_ascends : PySem.W.keepIn K (.ref g_ascends) = true)
    (a_are_unlike : PySem.W.nsIn K mainGlobals "are_unlike" = some (some (.ref g_are_unlike)))
    (lg_are_unlike : K.lookup g_are_unlike = some ⟨ocg_are_unlike, odg_are_unlike, .func (PySem.W.fnOf "are_unlike" "are_unlike" (defArgs s_are_unlike) (defBody s_are_unlike) (defScope s_are_unlike) .none kVg_are_unlike dcg_are_unlike pmg_are_unlike ang_are_unlike cdg_are_unlike ctg_are_unlike), slg_are_unlike⟩)
    (cog_are_unlike : PySem.W.codeIn K cdg_are_unlike "are_unlike" = true)
    (kpg_are_unlike : PySem.W.keepIn K (.ref g_are_unlike) = true)
    (a_are_names : PySem.W.nsIn K mainGlobals "are_names" = some (some (.ref g_are_names)))
    (lg_are_names : K.lookup g_are_names = some ⟨ocg_are_names, odg_are_names, .func (PySem.W.fnOf "are_names" "are_names" (defArgs s_are_names) (defBody s_are_names) (defScope s_are_names) .none kVg_are_names dcg_are_names pmg_are_names ang_are_names cdg_are_names ctg_are_names), slg_are_names⟩)
    (cog_are_names : PySem.W.codeIn K cdg_are_names "are_names" = true)
    (kpg_are_names : PySem.W.keepIn K (.ref g_are_names) = true)
    (a_are_tables : PySem.W.nsIn K mainGlobals "are_tables" = some (some (.ref g_are_tables)))
    (lg_are_tables : K.lookup g_are_tables = some ⟨ocg_are_tables, odg_are_tables, .func (PySem.W.fnOf "are_tables" "are_tables" (defArgs s_are_tables) (defBody s_are_tables) (defScope s_are_tables) .none kVg_are_tables dcg_are_tables pmg_are_tables ang_are_tables cdg_are_tables ctg_are_tables), slg_are_tables⟩)
    (cog_are_tables : PySem.W.codeIn K cdg_are_tables "are_tables" = true)
    (kpg_are_tables : PySem.W.keepIn K (.ref g_are_tables) = true)
    (a_is_pair : PySem.W.nsIn K mainGlobals "is_pair" = some (some (.ref g_is_pair)))
    (lg_is_pair : K.lookup g_is_pair = some ⟨ocg_is_pair, odg_is_pair, .func (PySem.W.fnOf "is_pair" "is_pair" (defArgs s_is_pair) (defBody s_is_pair) (defScope s_is_pair) .none kVg_is_pair dcg_is_pair pmg_is_pair ang_is_pair cdg_is_pair ctg_is_pair), slg_is_pair⟩)
    (cog_is_pair : PySem.W.codeIn K cdg_is_pair "is_pair" = true)
    (kpg_is_pair : PySem.W.keepIn K (.ref g_is_pair) = true)
    (a_need_query : PySem.W.nsIn K mainGlobals "need_query" = some (some (.ref g_need_query)))
    (lg_need_query : K.lookup g_need_query = some ⟨ocg_need_query, odg_need_query, .func (PySem.W.fnOf "need_query" "need_query" (defArgs s_need_query) (defBody s_need_query) (defScope s_need_query) .none kVg_need_query dcg_need_query pmg_need_query ang_need_query cdg_need_query ctg_need_query), slg_need_query⟩)
    (cog_need_query : PySem.W.codeIn K cdg_need_query "need_query" = true)
    (kpg_need_query : PySem.W.keepIn K (.ref g_need_query) = true)
    (a_names_in : PySem.W.nsIn K mainGlobals "names_in" = some (some (.ref g_names_in)))
    (lg_names_in : K.lookup g_names_in = some ⟨ocg_names_in, odg_names_in, .func (PySem.W.fnOf "names_in" "names_in" (defArgs s_names_in) (defBody s_names_in) (defScope s_names_in) .none kVg_names_in dcg_names_in pmg_names_in ang_names_in cdg_names_in ctg_names_in), slg_names_in⟩)
    (cog_names_in : PySem.W.codeIn K cdg_names_in "names_in" = true)
    (kpg_names_in : PySem.W.keepIn K (.ref g_names_in) = true)
    (a_is_order : PySem.W.nsIn K mainGlobals "is_order" = some (some (.ref g_is_order)))
    (lg_is_order : K.lookup g_is_order = some ⟨ocg_is_order, odg_is_order, .func (PySem.W.fnOf "is_order" "is_order" (defArgs s_is_order) (defBody s_is_order) (defScope s_is_order) .none kVg_is_order dcg_is_order pmg_is_order ang_is_order cdg_is_order ctg_is_order), slg_is_order⟩)
    (cog_is_order : PySem.W.codeIn K cdg_is_order "is_order" = true)
    (kpg_is_order : PySem.W.keepIn K (.ref g_is_order) = true)
    (a_need_order : PySem.W.nsIn K mainGlobals "need_order" = some (some (.ref g_need_order)))
    (lg_need_order : K.lookup g_need_order = some ⟨ocg_need_order, odg_need_order, .func (PySem.W.fnOf "need_order" "need_order" (defArgs s_need_order) (defBody s_need_order) (defScope s_need_order) .none kVg_need_order dcg_need_order pmg_need_order ang_need_order cdg_need_order ctg_need_order), slg_need_order⟩)
    (cog_need_order : PySem.W.codeIn K cdg_need_order "need_order" = true)
    (kpg_need_order : PySem.W.keepIn K (.ref g_need_order) = true)
    (a_lots_of : PySem.W.nsIn K mainGlobals "lots_of" = some (some (.ref g_lots_of)))
    (lg_lots_of : K.lookup g_lots_of = some ⟨ocg_lots_of, odg_lots_of, .func (PySem.W.fnOf "lots_of" "lots_of" (defArgs s_lots_of) (defBody s_lots_of) (defScope s_lots_of) .none kVg_lots_of dcg_lots_of pmg_lots_of ang_lots_of cdg_lots_of ctg_lots_of), slg_lots_of⟩)
    (cog_lots_of : PySem.W.codeIn K cdg_lots_of "lots_of" = true)
    (kpg_lots_of : PySem.W.keepIn K (.ref g_lots_of) = true)
    (a_is_chained : PySem.W.nsIn K mainGlobals "is_chained" = some (some (.ref g_is_chained)))
    (lg_is_chained : K.lookup g_is_chained = some ⟨ocg_is_chained, odg_is_chained, .func (PySem.W.fnOf "is_chained" "is_chained" (defArgs s_is_chained) (defBody s_is_chained) (defScope s_is_chained) .none kVg_is_chained dcg_is_chained pmg_is_chained ang_is_chained cdg_is_chained ctg_is_chained), slg_is_chained⟩)
    (cog_is_chained : PySem.W.codeIn K cdg_is_chained "is_chained" = true)
    (kpg_is_chained : PySem.W.keepIn K (.ref g_is_chained) = true)
    (a_steps_of : PySem.W.nsIn K mainGlobals "steps_of" = some (some (.ref g_steps_of)))
    (lg_steps_of : K.lookup g_steps_of = some ⟨ocg_steps_of, odg_steps_of, .func (PySem.W.fnOf "steps_of" "steps_of" (defArgs s_steps_of) (defBody s_steps_of) (defScope s_steps_of) .none kVg_steps_of dcg_steps_of pmg_steps_of ang_steps_of cdg_steps_of ctg_steps_of), slg_steps_of⟩)
    (cog_steps_of : PySem.W.codeIn K cdg_steps_of "steps_of" = true)
    (kpg_steps_of : PySem.W.keepIn K (.ref g_steps_of) = true)
    (a_is_chain : PySem.W.nsIn K mainGlobals "is_chain" = some (some (.ref g_is_chain)))
    (lg_is_chain : K.lookup g_is_chain = some ⟨ocg_is_chain, odg_is_chain, .func (PySem.W.fnOf "is_chain" "is_chain" (defArgs s_is_chain) (defBody s_is_chain) (defScope s_is_chain) .none kVg_is_chain dcg_is_chain pmg_is_chain ang_is_chain cdg_is_chain ctg_is_chain), slg_is_chain⟩)
    (cog_is_chain : PySem.W.codeIn K cdg_is_chain "is_chain" = true)
    (kpg_is_chain : PySem.W.keepIn K (.ref g_is_chain) = true)
    (a__law_pen : PySem.W.nsIn K mainGlobals "_law_pen" = some (some (.ref g__law_pen)))
    (lg__law_pen : K.lookup g__law_pen = some ⟨ocg__law_pen, odg__law_pen, .func (PySem.W.fnOf "_law_pen" "_law_pen" (defArgs s__law_pen) (defBody s__law_pen) (defScope s__law_pen) .none kVg__law_pen dcg__law_pen pmg__law_pen ang__law_pen cdg__law_pen ctg__law_pen), slg__law_pen⟩)
    (cog__law_pen : PySem.W.codeIn K cdg__law_pen "_law_pen" = true)
    (kpg__law_pen : PySem.W.keepIn K (.ref g__law_pen) = true)
    (a__law_draw : PySem.W.nsIn K mainGlobals "_law_draw" = some (some (.ref g__law_draw)))
    (lg__law_draw : K.lookup g__law_draw = some ⟨ocg__law_draw, odg__law_draw, .func (PySem.W.fnOf "_law_draw" "_law_draw" (defArgs s__law_draw) (defBody s__law_draw) (defScope s__law_draw) .none kVg__law_draw dcg__law_draw pmg__law_draw ang__law_draw cdg__law_draw ctg__law_draw), slg__law_draw⟩)
    (cog__law_draw : PySem.W.codeIn K cdg__law_draw "_law_draw" = true)
    (kpg__law_draw : PySem.W.keepIn K (.ref g__law_draw) = true)
    (a__law_pick : PySem.W.nsIn K mainGlobals "_law_pick" = some (some (.ref g__law_pick)))
    (lg__law_pick : K.lookup g__law_pick = some ⟨ocg__law_pick, odg__law_pick, .func (PySem.W.fnOf "_law_pick" "_law_pick" (defArgs s__law_pick) (defBody s__law_pick) (defScope s__law_pick) .none kVg__law_pick dcg__law_pick pmg__law_pick ang__law_pick cdg__law_pick ctg__law_pick), slg__law_pick⟩)
    (cog__law_pick : PySem.W.codeIn K cdg__law_pick "_law_pick" = true)
    (kpg__law_pick : PySem.W.keepIn K (.ref g__law_pick) = true)
    (a__law_words : PySem.W.nsIn K mainGlobals "_law_words" = some (some (.ref g__law_words)))
    (lg__law_words : K.lookup g__law_words = some ⟨ocg__law_words, odg__law_words, .func (PySem.W.fnOf "_law_words" "_law_words" (defArgs s__law_words) (defBody s__law_words) (defScope s__law_words) .none kVg__law_words dcg__law_words pmg__law_words ang__law_words cdg__law_words ctg__law_words), slg__law_words⟩)
    (cog__law_words : PySem.W.codeIn K cdg__law_words "_law_words" = true)
    (kpg__law_words : PySem.W.keepIn K (.ref g__law_words) = true)
    (a__law_plain : PySem.W.nsIn K mainGlobals "_law_plain" = some (some (.ref g__law_plain)))
    (lg__law_plain : K.lookup g__law_plain = some ⟨ocg__law_plain, odg__law_plain, .func (PySem.W.fnOf "_law_plain" "_law_plain" (defArgs s__law_plain) (defBody s__law_plain) (defScope s__law_plain) .none kVg__law_plain dcg__law_plain pmg__law_plain ang__law_plain cdg__law_plain ctg__law_plain), slg__law_plain⟩)
    (cog__law_plain : PySem.W.codeIn K cdg__law_plain "_law_plain" = true)
    (kpg__law_plain : PySem.W.keepIn K (.ref g__law_plain) = true)
    (a__law_query : PySem.W.nsIn K mainGlobals "_law_query" = some (some (.ref g__law_query)))
    (lg__law_query : K.lookup g__law_query = some ⟨ocg__law_query, odg__law_query, .func (PySem.W.fnOf "_law_query" "_law_query" (defArgs s__law_query) (defBody s__law_query) (defScope s__law_query) .none kVg__law_query dcg__law_query pmg__law_query ang__law_query cdg__law_query ctg__law_query), slg__law_query⟩)
    (cog__law_query : PySem.W.codeIn K cdg__law_query "_law_query" = true)
    (kpg__law_query : PySem.W.keepIn K (.ref g__law_query) = true)
    (a__law_lots : PySem.W.nsIn K mainGlobals "_law_lots" = some (some (.ref g__law_lots)))
    (lg__law_lots : K.lookup g__law_lots = some ⟨ocg__law_lots, odg__law_lots, .func (PySem.W.fnOf "_law_lots" "_law_lots" (defArgs s__law_lots) (defBody s__law_lots) (defScope s__law_lots) .none kVg__law_lots dcg__law_lots pmg__law_lots ang__law_lots cdg__law_lots ctg__law_lots), slg__law_lots⟩)
    (cog__law_lots : PySem.W.codeIn K cdg__law_lots "_law_lots" = true)
    (kpg__law_lots : PySem.W.keepIn K (.ref g__law_lots) = true)
    (a__law_trees : PySem.W.nsIn K mainGlobals "_law_trees" = some (some (.ref g__law_trees)))
    (lg__law_trees : K.lookup g__law_trees = some ⟨ocg__law_trees, odg__law_trees, .func (PySem.W.fnOf "_law_trees" "_law_trees" (defArgs s__law_trees) (defBody s__law_trees) (defScope s__law_trees) .none kVg__law_trees dcg__law_trees pmg__law_trees ang__law_trees cdg__law_trees ctg__law_trees), slg__law_trees⟩)
    (cog__law_trees : PySem.W.codeIn K cdg__law_trees "_law_trees" = true)
    (kpg__law_trees : PySem.W.keepIn K (.ref g__law_trees) = true)
    (a__law_in : PySem.W.nsIn K mainGlobals "_law_in" = some (some (.ref g__law_in)))
    (lg__law_in : K.lookup g__law_in = some ⟨ocg__law_in, odg__law_in, .func (PySem.W.fnOf "_law_in" "_law_in" (defArgs s__law_in) (defBody s__law_in) (defScope s__law_in) .none kVg__law_in dcg__law_in pmg__law_in ang__law_in cdg__law_in ctg__law_in), slg__law_in⟩)
    (cog__law_in : PySem.W.codeIn K cdg__law_in "_law_in" = true)
    (kpg__law_in : PySem.W.keepIn K (.ref g__law_in) = true)
    (a__law_steps : PySem.W.nsIn K mainGlobals "_law_steps" = some (some (.ref g__law_steps)))
    (lg__law_steps : K.lookup g__law_steps = some ⟨ocg__law_steps, odg__law_steps, .func (PySem.W.fnOf "_law_steps" "_law_steps" (defArgs s__law_steps) (defBody s__law_steps) (defScope s__law_steps) .none kVg__law_steps dcg__law_steps pmg__law_steps ang__law_steps cdg__law_steps ctg__law_steps), slg__law_steps⟩)
    (cog__law_steps : PySem.W.codeIn K cdg__law_steps "_law_steps" = true)
    (kpg__law_steps : PySem.W.keepIn K (.ref g__law_steps) = true)
    (a__law_is_chain : PySem.W.nsIn K mainGlobals "_law_is_chain" = some (some (.ref g__law_is_chain)))
    (lg__law_is_chain : K.lookup g__law_is_chain = some ⟨ocg__law_is_chain, odg__law_is_chain, .func (PySem.W.fnOf "_law_is_chain" "_law_is_chain" (defArgs s__law_is_chain) (defBody s__law_is_chain) (defScope s__law_is_chain) .none kVg__law_is_chain dcg__law_is_chain pmg__law_is_chain ang__law_is_chain cdg__law_is_chain ctg__law_is_chain), slg__law_is_chain⟩)
    (cog__law_is_chain : PySem.W.codeIn K cdg__law_is_chain "_law_is_chain" = true)
    (kpg__law_is_chain : PySem.W.keepIn K (.ref g__law_is_chain) = true)
    (a__law_tree : PySem.W.nsIn K mainGlobals "_law_tree" = some (some (.ref g__law_tree)))
    (lg__law_tree : K.lookup g__law_tree = some ⟨ocg__law_tree, odg__law_tree, .func (PySem.W.fnOf "_law_tree" "_law_tree" (defArgs s__law_tree) (defBody s__law_tree) (defScope s__law_tree) .none kVg__law_tree dcg__law_tree pmg__law_tree ang__law_tree cdg__law_tree ctg__law_tree), slg__law_tree⟩)
    (cog__law_tree : PySem.W.codeIn K cdg__law_tree "_law_tree" = true)
    (kpg__law_tree : PySem.W.keepIn K (.ref g__law_tree) = true)
    (a__law_heard : PySem.W.nsIn K mainGlobals "_law_heard" = some (some (.ref g__law_heard)))
    (lg__law_heard : K.lookup g__law_heard = some ⟨ocg__law_heard, odg__law_heard, .func (PySem.W.fnOf "_law_heard" "_law_heard" (defArgs s__law_heard) (defBody s__law_heard) (defScope s__law_heard) .none kVg__law_heard dcg__law_heard pmg__law_heard ang__law_heard cdg__law_heard ctg__law_heard), slg__law_heard⟩)
    (cog__law_heard : PySem.W.codeIn K cdg__law_heard "_law_heard" = true)
    (kpg__law_heard : PySem.W.keepIn K (.ref g__law_heard) = true)
    (a__law_bent : PySem.W.nsIn K mainGlobals "_law_bent" = some (some (.ref g__law_bent)))
    (lg__law_bent : K.lookup g__law_bent = some ⟨ocg__law_bent, odg__law_bent, .func (PySem.W.fnOf "_law_bent" "_law_bent" (defArgs s__law_bent) (defBody s__law_bent) (defScope s__law_bent) .none kVg__law_bent dcg__law_bent pmg__law_bent ang__law_bent cdg__law_bent ctg__law_bent), slg__law_bent⟩)
    (cog__law_bent : PySem.W.codeIn K cdg__law_bent "_law_bent" = true)
    (kpg__law_bent : PySem.W.keepIn K (.ref g__law_bent) = true)
    (a_gB : PySem.W.nsIn K mainGlobals "by_names" = some (some (.ref gB)))
    (llgB : K.lookup gB = some ⟨ocgB, odgB, .func (PySem.W.fnOf "by_names" "by_names" (defArgs s_by_names) (defBody s_by_names) (defScope s_by_names) .none kVgB dcgB pmgB angB (.ref cB) ctgB), slgB⟩)
    (lcgB : PySem.W.codeIn K (.ref cB) "by_names" = true)
    (lkgB : PySem.W.keepIn K (.ref gB) = true)
    (logB : K.lookup cB = some ⟨.type "code", ddgB, .fields vsgB, sogB⟩)
    (l11gB : vsgB[11]? = some (.ref PB))
    (l18gB : vsgB.getD 18 .none = .str flgB tfgB)
    (l7gB : vsgB.getD 7 .none = .int fggB tggB)
    (l9gB : vsgB.getD 9 .none = .bool ingB)
    (l10gB : vsgB.getD 10 .none = .int txgB ttgB)
    (lPgB : K.lookup PB = none)
    (a_gl : PySem.W.nsIn K mainGlobals "law" = some (some (.ref gl)))
    (llgl : K.lookup gl = some ⟨ocgl, odgl, .func (PySem.W.fnOf "law" "law" (defArgs s_law) (defBody s_law) (defScope s_law) .none kVgl dcgl pmgl angl (.ref cL) ctgl), slgl⟩)
    (lcgl : PySem.W.codeIn K (.ref cL) "law" = true)
    (lkgl : PySem.W.keepIn K (.ref gl) = true)
    (logl : K.lookup cL = some ⟨.type "code", ddgl, .fields vsgl, sogl⟩)
    (l11gl : vsgl[11]? = some (.ref Pt))
    (l18gl : vsgl.getD 18 .none = .str flgl tfgl)
    (l7gl : vsgl.getD 7 .none = .int fggl tggl)
    (l9gl : vsgl.getD 9 .none = .bool ingl)
    (l10gl : vsgl.getD 10 .none = .int txgl ttgl)
    (lPgl : K.lookup Pt = none)
    (hne : Pt ≠ PB)
    (hrB : ((recsOf q).any fun e => e.name == "by_names") = true)
    : ∃ (c Pt : Addr) (G : DL.Ctx) (L : List TabI), LawD K "law" s_law fa c Pt ∧ (∀ i ∈ L, LawD K i.x i.st i.f i.c i.P ∧ mg i.x = some (.ref i.f) ∧ ((recsOf q).any fun e => e.name == i.x) = true) ∧ G.K = K ∧ G.T.map (·.1) = Pt :: L.map (·.P) ∧ ∀ (base : Heap) (s : Shared) (H : Hp) (E : XK), K.In base → base.Ns mainGlobals mg → TabB base mg c Pt → (∀ i ∈ L, TabB base mg i.c i.P) →
        Room 26 (callerA.deeper (envOfC "law" (defScope s_law) s.heap.objs.size fa (.ref c))) → (callerA.deeper (envOfC "law" (defScope s_law) s.heap.objs.size fa (.ref c))).guards = some [] →
        Takes (cxOf (L2.CX l.prog w) l.prog w K mg base n_law "law" (defScope s_law) fa (.ref c) callerA [] s H E) (WD E) →
        DSs (cxOf (L2.CX l.prog w) l.prog w K mg base n_law "law" (defScope s_law) fa (.ref c) callerA [] s H E) G (WD E) (defBody s_law) b_law := by
  subst hP
  have e := hfa.symm.trans (PySem.W.mg_of X N a_gl)
  cases e
  have hx2 : ExT l.prog K mg C2 ([0, 0, fI_2, fI_3].getD 2 0) "part" :=
    { cls := ⟨nmX_2, qX_2, NX_2, bsX_2, bmX_2, snX_2, subX_2, abX_2, colX_2, ddX_2, m0_2, m1_2, m2_2, m3_2, m5_2, xL_2, xv_2⟩, sa := xsa_2, ga := xg_2, gg := xk_2, noN := xn_2, iC := xi_2, tC := xt_2, kC := xkC_2, exC := xs_2, tyC := xty_2, hdC := xd_2, ve := xve_2, su := xsu_2, mr := xmr_2, op := xop, sp := PySem.W.mg_none_of X N z_super, top := xtop,
      fn := ⟨cc_2, cda_2, clc_2, cldc_2, cslc_2, cclX_2, cddX_2, vsX_2, ccsX_2, flX_2, tfX_2, ocX_2, odX_2, qlX_2, dcX_2, pmX_2, anX_2, ctX_2, slX_2, scX_2, p1_2, p2_2, q1_2, q2_2, q3_2, q4_2, q5_2, q6_2, q7_2, q8_2, q9_2, q10_2, xcc_2, xcd_2, xv2_2, xfl_2, xfn_2, xco_2, xsc_2, xev_2, fun s a b => .of_eq rfl⟩ }
  have hx3 : ExT l.prog K mg C3 ([0, 0, fI_2, fI_3].getD 3 0) "part" :=
    { cls := ⟨nmX_3, qX_3, NX_3, bsX_3, bmX_3, snX_3, subX_3, abX_3, colX_3, ddX_3, m0_3, m1_3, m2_3, m3_3, m5_3, xL_3, xv_3⟩, sa := xsa_3, ga := xg_3, gg := xk_3, noN := xn_3, iC := xi_3, tC := xt_3, kC := xkC_3, exC := xs_3, tyC := xty_3, hdC := xd_3, ve := xve_3, su := xsu_3, mr := xmr_3, op := xop, sp := PySem.W.mg_none_of X N z_super, top := xtop,
      fn := ⟨cc_3, cda_3, clc_3, cldc_3, cslc_3, cclX_3, cddX_3, vsX_3, ccsX_3, flX_3, tfX_3, ocX_3, odX_3, qlX_3, dcX_3, pmX_3, anX_3, ctX_3, slX_3, scX_3, p1_3, p2_3, q1_3, q2_3, q3_3, q4_3, q5_3, q6_3, q7_3, q8_3, q9_3, q10_3, xcc_3, xcd_3, xv2_3, xfl_3, xfn_3, xco_3, xsc_3, xev_3, fun s a b => .of_eq rfl⟩ }
  let CS : List Addr := [C0, C1, C2, C3]
  have F : FactsC K CS CM gB cB PB :=
    { len := rfl,
      c0 := c0,
      c1 := c1,
      c2 := c2,
      c3 := c3,
      cM := cM,
      z_len := z_len,
      z_all := z_all,
      z_sorted := z_sorted,
      z_abs := z_abs,
      z_zip := z_zip,
      z_range := z_range,
      z_repr := z_repr,
      z_isinstance := z_isinstance,
      z_sum := z_sum,
      z_str := z_str,
      z_list := z_list,
      z_tuple := z_tuple,
      z_int := z_int,
      z_bool := z_bool,
      z_dict := z_dict,
      z_super := z_super,
      v_LETTERS := ⟨_, v_LETTERS⟩,
      v_MOST_SIGNS := ⟨_, v_MOST_SIGNS⟩,
      v_MOST_COLUMNS := ⟨_, v_MOST_COLUMNS⟩,
      v_MOST_TABLES := ⟨_, v_MOST_TABLES⟩,
      v_KINDS := ⟨aK, v4, ⟨_, itK, nK, v4l, rfl, rfl, by rw [← Array.length_toList, v4i]; show 2 ≤ sizeLine; decide, by rw [v4i]; exact .cons ⟨tK1, rfl⟩ (.cons ⟨tK2, rfl⟩ .nil)⟩⟩,
      ins0 := ⟨⟨pg_0, hd_0, po_0, sa_0⟩, ha_0, hn, ht, hm_0⟩,
      n_name := n_name,
      n_columns := n_columns,
      n_unique := n_unique,
      n_kind := n_kind,
      k_str_0 := k_str_0,
      k_list_0 := k_list_0,
      k_tuple_0 := k_tuple_0,
      k_int_0 := k_int_0,
      k_bool_0 := k_bool_0,
      k_own_0_0 := k_own_0_0,
      k_own_0_1 := k_own_0_1,
      k_NoneType0_0 := k_NoneType0_0,
      k_bool0_0 := k_bool0_0,
      k_int0_0 := k_int0_0,
      k_str0_0 := k_str0_0,
      k_tuple0_0 := k_tuple0_0,
      k_list0_0 := k_list0_0,
      k_dict0_0 := k_dict0_0,
      ins1 := ⟨⟨pg_1, hd_1, po_1, sa_1⟩, ha_1, hn, ht, hm_1⟩,
      n_tables := n_tables,
      n_pairs := n_pairs,
      n_names := n_names,
      k_str_1 := k_str_1,
      k_list_1 := k_list_1,
      k_tuple_1 := k_tuple_1,
      k_int_1 := k_int_1,
      k_bool_1 := k_bool_1,
      k_own_1_0 := k_own_1_0,
      k_own_1_1 := k_own_1_1,
      k_NoneType0_1 := k_NoneType0_1,
      k_bool0_1 := k_bool0_1,
      k_int0_1 := k_int0_1,
      k_str0_1 := k_str0_1,
      k_tuple0_1 := k_tuple0_1,
      k_list0_1 := k_list0_1,
      k_dict0_1 := k_dict0_1,
      init0 := ⟨fT0, _, e0, ⟨mk_0, inf_0, ini_0, ink_0⟩, ⟨_, itE, nE, el, rfl, rfl, by rw [← Array.length_toList, eli]; show 0 ≤ sizeLine; decide, by rw [eli]; exact .nil⟩, ⟨⟨_, _, _, _, _, _, _, _, _, _, rfl, lfT0, cofT0, .inr ⟨by simp, dT, _, _, nD, rfl, dl, by rw [dli], .cons rfl (.cons ⟨tD, rfl⟩ .nil)⟩, .inl rfl⟩, kpfT0⟩⟩,
      init1 := ⟨fT1, _, ⟨mk_1, inf_1, ini_1, ink_1⟩, fun_mk lfT1 cofT1 kpfT1⟩,
      exc2 := ⟨xg_2, xk_2, xs_2, xd_2, xa_2, hn, ht, xo_2⟩,
      exf2 := ⟨xg_2, xk_2, xs_2, xd_2, xn_2⟩,
      xm2 := exm_of xm0 xm1 xm2 xm3_2,
      x_2_2 := x_2_2,
      x_2_3 := x_2_3,
      exc3 := ⟨xg_3, xk_3, xs_3, xd_3, xa_3, hn, ht, xo_3⟩,
      exf3 := ⟨xg_3, xk_3, xs_3, xd_3, xn_3⟩,
      xm3 := exm_of xm0 xm1 xm2 xm3_3,
      x_3_2 := x_3_2,
      x_3_3 := x_3_3,
      d_is_name := defK a_is_name lg_is_name cog_is_name kpg_is_name,
      d_is_listed := defK a_is_listed lg_is_listed cog_is_listed kpg_is_listed,
      d_ascends := defK a_ascends lg_ascends cog_ascends kpg_ascends,
      d_are_unlike := defK a_are_unlike lg_are_unlike cog_are_unlike kpg_are_unlike,
      d_are_names := defK a_are_names lg_are_names cog_are_names kpg_are_names,
      d_are_tables := defK a_are_tables lg_are_tables cog_are_tables kpg_are_tables,
      d_is_pair := defK a_is_pair lg_is_pair cog_is_pair kpg_is_pair,
      d_need_query := defK a_need_query lg_need_query cog_need_query kpg_need_query,
      d_names_in := defK a_names_in lg_names_in cog_names_in kpg_names_in,
      d_is_order := defK a_is_order lg_is_order cog_is_order kpg_is_order,
      d_need_order := defK a_need_order lg_need_order cog_need_order kpg_need_order,
      d_lots_of := defK a_lots_of lg_lots_of cog_lots_of kpg_lots_of,
      d_is_chained := defK a_is_chained lg_is_chained cog_is_chained kpg_is_chained,
      d_steps_of := defK a_steps_of lg_steps_of cog_steps_of kpg_steps_of,
      d_is_chain := defK a_is_chain lg_is_chain cog_is_chain kpg_is_chain,
      d__law_pen := defK a__law_pen lg__law_pen cog__law_pen kpg__law_pen,
      d__law_draw := defK a__law_draw lg__law_draw cog__law_draw kpg__law_draw,
      d__law_pick := defK a__law_pick lg__law_pick cog__law_pick kpg__law_pick,
      d__law_words := defK a__law_words lg__law_words cog__law_words kpg__law_words,
      d__law_plain := defK a__law_plain lg__law_plain cog__law_plain kpg__law_plain,
      d__law_query := defK a__law_query lg__law_query cog__law_query kpg__law_query,
      d__law_lots := defK a__law_lots lg__law_lots cog__law_lots kpg__law_lots,
      d__law_trees := defK a__law_trees lg__law_trees cog__law_trees kpg__law_trees,
      d__law_in := defK a__law_in lg__law_in cog__law_in kpg__law_in,
      d__law_steps := defK a__law_steps lg__law_steps cog__law_steps kpg__law_steps,
      d__law_is_chain := defK a__law_is_chain lg__law_is_chain cog__law_is_chain kpg__law_is_chain,
      d__law_tree := defK a__law_tree lg__law_tree cog__law_tree kpg__law_tree,
      d__law_heard := defK a__law_heard lg__law_heard cog__law_heard kpg__law_heard,
      d__law_bent := defK a__law_bent lg__law_bent cog__law_bent kpg__law_bent,
      aB := a_gB,
      kB := lkgB,
      lB := ⟨⟨_, _, _, _, _, _, _, _, _, vsgB, _, _, _, _, _, _, _, _, llgB, lcgB, logB, l11gB, l18gB, l7gB, l9gB, l10gB⟩, lPgB⟩ }
  refine ⟨cL, Pt, ctx K (CAof CS) [(Pt, lamQ), (PB, lamB)], [⟨"by_names", s_by_names, gB, cB, PB⟩], ⟨⟨_, _, _, _, _, _, _, _, _, vsgl, _, _, _, _, _, _, _, _, llgl, lcgl, logl, l11gl, l18gl, l7gl, l9gl, l10gl⟩, lPgl⟩, fun i hi => ?_, rfl, rfl, fun base s H E KB NB TB TBL hr hgu tk => ?_⟩
  · rw [List.mem_singleton] at hi
    subst hi
    exact ⟨F.lB, PySem.W.mg_of X N a_gB, hrB⟩
  · exact body_ok X N F hne (fI := fun i => [0, 0, fI_2, fI_3].getD i 0) hx2 hx3 TB (TBL _ List.mem_cons_self) hr hgu tk
end K39

set_option Elab.async false
set_option linter.all false
set_option maxRecDepth 100000
set_option maxHeartbeats 1000000
/-! K39M1: the pen. -/
namespace K39
open PySem DL
def penD (cells : List Int) (t q : Int) : D := .dct [(Sum.inr "row", .lst (cells.map D.int)), (Sum.inr "at", .int t), (Sum.inr "rest", .int q)]
/-- the pen: the script's cells, the turn (at most T), the rest -/
def PenOk (T : Nat) (pen : D) : Prop := ∃ (cells : List Int) (t q : Int), pen = penD cells t q ∧ 0 ≤ t ∧ t ≤ T
theorem PenOk.mono {T T' : Nat} {pen : D} (h : PenOk T pen) (l : T ≤ T') : PenOk T' pen := by
  obtain ⟨c, t, q, e, h1, h2⟩ := h
  exact ⟨c, t, q, e, h1, by omega⟩
section
variable (cells : List Int) (t q m : Int)
theorem g_row : dgetP (penD cells t q) (.str "row") = some (.lst (cells.map D.int), false) := rfl
theorem g_at : dgetP (penD cells t q) (.str "at") = some (.int t, false) := rfl
theorem g_rest : dgetP (penD cells t q) (.str "rest") = some (.int q, false) := rfl
theorem s_at (v : Int) : setP (.str "at") (.int v) (penD cells t q) = some (penD cells v q) := rfl
theorem s_rest (v : Int) : setP (.str "rest") (.int v) (penD cells t q) = some (penD cells t v) := rfl
def drE (m : Int) (c a r n g x : Sl) (pen : D) : EV := [some (pen, .p), some (.int m, .s), c, a, r, n, g, x]
theorem eqD_nilI (xs : List Int) : eqD (.lst (xs.map D.int)) (.lst []) = decide (xs = []) := by
  cases xs <;> simp [eqD, eqL]
theorem depInts : ∀ xs : List Int, depL (xs.map D.int) = some 0
  | [] => rfl
  | x :: r => by simp [depL, depD, depInts r]
theorem okDepInts (xs : List Int) : okDep (.lst (xs.map D.int)) = true := by
  unfold okDep depD
  rw [depInts]
  rfl
theorem neP_int (xs : List Int) : neP (.lst (xs.map D.int)) (.lst []) = some (.bl (!decide (xs = [])), false) := by
  unfold neP
  rw [okDepInts, eqD_nilI]
  rfl
end
theorem fm {a m : Int} (h : 0 < m) : 0 ≤ a.fmod m ∧ a.fmod m < m := ⟨Int.fmod_nonneg_of_pos a h, Int.fmod_lt_of_pos a h⟩
/-- a draw: what stands above nothing -/
theorem draw_ok {T : Nat} {pen : D} {m : Int} (h : PenOk T pen) (hT : T ≤ 1000000) (h0 : 0 < m) (h1 : m < 1073741824) : ∃ r pen', c__law_draw [pen, .int m] = .ok (.int r) false (some pen') ∧ 0 ≤ r ∧ r < m ∧ PenOk (T + 1) pen' := by
  obtain ⟨cells, t, q, rfl, t0, t1⟩ := h
  have hst : c__law_draw [penD cells t q, .int m] = (match b__law_draw (drE m none none none none none none (penD cells t q)) with
    | .nx e => .ok .non false (finE true e)
    | .rt d o e => .ok d o (finE true e)
    | .exc c fs e => .exc c fs (finE true e)
    | _ => .bad) := rfl
  rw [hst]
  unfold b__law_draw
  have e1 : mT (mO2 (cmpP fun i j => decide (j < i)) (.ex (mO2 dgetP (.pl 0) (.ex (mC (.str "rest"))))) (.ex (mC (.int 0)))) (drE m none none none none none none (penD cells t q)) = .ok (decide (0 < q)) (drE m none none none none none none (penD cells t q)) := rfl
  by_cases hq : 0 < q
  · rw [decide_eq_true hq] at e1
    have gr : ∀ c : Sl, mO2 dgetP (.pl 0) (.ex (mC (.str "rest"))) (drE m c none none none none none (penD cells t q)) = .ok (.int q) false (drE m c none none none none none (penD cells t q)) := fun c => rfl
    have s1 : mSet 2 (mO2 modP (.ex (mO1 int1P (.ex (mO2 dgetP (.pl 0) (.ex (mC (.str "rest"))))))) (.pl 1)) (drE m none none none none none none (penD cells t q)) = .nx (drE m (some (.int (q.fmod m), .s)) none none none none none (penD cells t q)) :=
      ev_set (o := false) (ev_xp (t := .s) (ev_x (gr none) rfl) rfl (modP_i (by omega))) rfl
    have s2 : mSub 0 (mC (.str "rest")) (mO2 divP (.ex (mO1 int1P (.ex (mO2 dgetP (.pl 0) (.ex (mC (.str "rest"))))))) (.pl 1)) (drE m (some (.int (q.fmod m), .s)) none none none none none (penD cells t q)) = .nx (drE m (some (.int (q.fmod m), .s)) none none none none none (penD cells t (q.fdiv m))) :=
      ev_sub (t := .p) (ev_xp (t := .s) (ev_x (gr _) rfl) rfl (divP_i (by omega) (by omega))) rfl (o2 := false) rfl rfl (by decide) (s_rest cells t q _)
    rw [ev_seqR ((ev_ifT e1).trans ((ev_seq s1).trans ((ev_seq s2).trans (rfl : mRet (mMv 2) (drE m (some (.int (q.fmod m), .s)) none none none none none (penD cells t (q.fdiv m))) = .rt (.int (q.fmod m)) false (drE m (some (.int (q.fmod m), .s)) none none none none none (penD cells t (q.fdiv m)))))))]
    exact ⟨_, _, rfl, (fm h0).1, (fm h0).2, ⟨cells, t, q.fdiv m, rfl, t0, by omega⟩⟩
  · rw [decide_eq_false hq] at e1
    rw [ev_seq (ev_ifN e1)]
    let A : Sl := some (.int t, .s)
    let R : Sl := some (.lst (cells.map D.int), .s)
    let pen1 := penD cells (t + 1) q
    have s1 : mPar 3 4 (mO2 dgetP (.pl 0) (.ex (mC (.str "at")))) (mO2 dgetP (.pl 0) (.ex (mC (.str "row")))) (drE m none none none none none none (penD cells t q)) = .nx (drE m none A R none none none (penD cells t q)) := rfl
    have s2 : mSub 0 (mC (.str "at")) (mO2 addP (.pl 3) (.ex (mC (.int 1)))) (drE m none A R none none none (penD cells t q)) = .nx (drE m none A R none none none pen1) := rfl
    have s3 : ∃ v, mSet 2 (mIf (mT (mO2 neP (.pl 4) (.ex (mLst [])))) (mO2 ixP (.pl 4) (.ex (mO2 modP (.pl 3) (.ex (mO1 lenP (.pl 4)))))) (mO2 mulP (.ex (mC (.int 6121))) (.ex (mO2 addP (.pl 3) (.ex (mC (.int 3))))))) (drE m none A R none none none pen1) = .nx (drE m (some (.int v, .s)) A R none none none pen1) := by
      have ec : mT (mO2 neP (.pl 4) (.ex (mLst []))) (drE m none A R none none none pen1) = .ok (!decide (cells = [])) (drE m none A R none none none pen1) := ev_T (ev_px (t := .s) (t' := .s) (x0 := .lst (cells.map D.int)) (o2 := true) (y := .lst []) rfl rfl rfl (neP_int cells))
      by_cases hc : cells = []
      · rw [decide_eq_true hc] at ec
        have em : mIf (mT (mO2 neP (.pl 4) (.ex (mLst [])))) (mO2 ixP (.pl 4) (.ex (mO2 modP (.pl 3) (.ex (mO1 lenP (.pl 4)))))) (mO2 mulP (.ex (mC (.int 6121))) (.ex (mO2 addP (.pl 3) (.ex (mC (.int 3)))))) (drE m none A R none none none pen1) = .ok (.int (6121 * (t + 3))) false (drE m none A R none none none pen1) := by
          rw [ev_ifE ec]
          exact ev_xx (o1 := false) (x := .int 6121) rfl (ev_px (t := .s) (t' := .s) (x0 := .int t) (o2 := false) (y := .int 3) rfl rfl rfl rfl) (mulP_j ⟨by decide, by decide⟩)
        exact ⟨_, ev_set em rfl⟩
      · rw [decide_eq_false hc] at ec
        have hl : (0 : Int) < cells.length := by
          have : cells.length ≠ 0 := fun e => hc (List.eq_nil_of_length_eq_zero e)
          omega
        have f := fm (a := t) hl
        have h2 : (t.fmod cells.length).toNat < cells.length := by omega
        have hm : modP (.int t) (.int (cells.map D.int).length) = some (.int (t.fmod cells.length), false) := by
          rw [List.length_map]; exact modP_i (by omega)
        have hx : ixP (.lst (cells.map D.int)) (.int (t.fmod cells.length)) = some (.int cells[(t.fmod cells.length).toNat], false) := ixP_l f.1 (by rw [List.getElem?_map, List.getElem?_eq_getElem h2]; rfl)
        have em : mIf (mT (mO2 neP (.pl 4) (.ex (mLst [])))) (mO2 ixP (.pl 4) (.ex (mO2 modP (.pl 3) (.ex (mO1 lenP (.pl 4)))))) (mO2 mulP (.ex (mC (.int 6121))) (.ex (mO2 addP (.pl 3) (.ex (mC (.int 3)))))) (drE m none A R none none none pen1) = .ok (.int cells[(t.fmod cells.length).toNat]) false (drE m none A R none none none pen1) := by
          rw [ev_ifE ec]
          exact ev_px (t := .s) (t' := .s) (x0 := .lst (cells.map D.int)) rfl (ev_px (t := .s) (t' := .s) (x0 := .int t) rfl (ev_p (t := .s) (x := .lst (cells.map D.int)) (o := false) rfl rfl) rfl hm) rfl hx
        exact ⟨_, ev_set em rfl⟩
    obtain ⟨v, s3⟩ := s3
    let V : Sl := some (.int v, .s)
    have s4 : mSet 5 (mIf (mAndT (mT (mO1 (isiP anc [0, 1] [.int]) (.pl 2))) (mNotT (mT (mO1 (isiP anc [0, 1] [.bool]) (.pl 2))))) (mV 2) (mC (.int 0))) (drE m V A R none none none pen1) = .nx (drE m V A R V none none pen1) := rfl
    have ep : PenOk (T + 1) pen1 := ⟨cells, t + 1, q, rfl, by omega, by omega⟩
    rw [ev_seq s1, ev_seq s2, ev_seq s3, ev_seq s4]
    have e7 : mT (mO2 ltP (.pl 3) (.ex (mO1 lenP (.pl 4)))) (drE m V A R V none none pen1) = .ok (decide (t < cells.length)) (drE m V A R V none none pen1) := by
      have : mT (mO2 ltP (.pl 3) (.ex (mO1 lenP (.pl 4)))) (drE m V A R V none none pen1) = .ok (decide (t < (cells.map D.int).length)) (drE m V A R V none none pen1) := rfl
      rw [this, List.length_map]
    have e8 : mT (mO2 (cmpP fun i j => decide (j ≤ i)) (.ex (mO1 absP (.pl 5))) (.ex (mO2 powP (.ex (mC (.int 10))) (.ex (mC (.int 18)))))) (drE m V A R V none none pen1) = .ok (decide ((10 : Int) ^ 18 ≤ if v < 0 then -v else v)) (drE m V A R V none none pen1) := rfl
    have tail : ∃ r pen', (match mSeq (mSet 7 (mO2 addP (.ex (mO2 mulP (.ex (mO2 addP (.ex (mO2 modP (.ex (mO1 int1P (.ex (mO1 absP (.pl 5))))) (.ex (mC (.int 7919))))) (.ex (mO2 mulP (.ex (mC (.int 6121))) (.ex (mO2 addP (.pl 3) (.ex (mC (.int 1))))))))) (.ex (mO2 addP (.pl 3) (.ex (mC (.int 11))))))) (.ex (mC (.int 7)))))
    (mRet (mO2 modP (.ex (mO1 int1P (.ex (mO2 divP (.ex (mO2 mulP (.pl 7) (.pl 7))) (.ex (mC (.int 13))))))) (.pl 1))) (drE m V A R V none none pen1) with
      | .nx e => RC.ok .non false (finE true e)
      | .rt d o e => .ok d o (finE true e)
      | .exc c fs e => .exc c fs (finE true e)
      | _ => .bad) = .ok (.int r) false (some pen') ∧ 0 ≤ r ∧ r < m ∧ PenOk (T + 1) pen' := by
      let av : Int := if v < 0 then -v else v
      have f := fm (a := av) (m := 7919) (by decide)
      let B : Int := av.fmod 7919 + 6121 * (t + 1)
      let X : Int := B * (t + 11) + 7
      have b0 : 0 ≤ B := by omega
      have b1 : B ≤ 7919 + 6121 * 1000001 := by omega
      have x0 : 0 ≤ B * (t + 11) := Int.mul_nonneg b0 (by omega)
      have x1 : B * (t + 11) ≤ (7919 + 6121 * 1000001) * 1000011 := Int.mul_le_mul b1 (by omega) (by omega) (by decide)
      have u1 : mSet 7 (mO2 addP (.ex (mO2 mulP (.ex (mO2 addP (.ex (mO2 modP (.ex (mO1 int1P (.ex (mO1 absP (.pl 5))))) (.ex (mC (.int 7919))))) (.ex (mO2 mulP (.ex (mC (.int 6121))) (.ex (mO2 addP (.pl 3) (.ex (mC (.int 1))))))))) (.ex (mO2 addP (.pl 3) (.ex (mC (.int 11))))))) (.ex (mC (.int 7)))) (drE m V A R V none none pen1) = .nx (drE m V A R V none (some (.int X, .s)) pen1) := by
        refine ev_set (o := false) (ev_xx (x := .int (B * (t + 11))) (ev_xx (x := .int B) (ev_xx (x := .int (av.fmod 7919)) (ev_xx (x := .int av) (ev_x (ev_p (t := .s) (x := .int v) rfl rfl) rfl) (o2 := false) rfl (modP_i (by decide))) (ev_xx (x := .int 6121) (o1 := false) rfl (ev_px (t := .s) (t' := .s) (x0 := .int t) (o2 := false) (y := .int 1) rfl rfl rfl rfl) (mulP_j ⟨by decide, by decide⟩)) rfl) (ev_px (t := .s) (t' := .s) (x0 := .int t) (o2 := false) (y := .int 11) rfl rfl rfl rfl) (mulP_i ⟨by omega, by omega⟩)) (o2 := false) rfl rfl) rfl
      rw [ev_seq u1]
      have u2 : mRet (mO2 modP (.ex (mO1 int1P (.ex (mO2 divP (.ex (mO2 mulP (.pl 7) (.pl 7))) (.ex (mC (.int 13))))))) (.pl 1)) (drE m V A R V none (some (.int X, .s)) pen1) = .rt (.int (((X * X).fdiv 13).fmod m)) false (drE m V A R V none (some (.int X, .s)) pen1) :=
        ev_ret (ev_xp (t := .s) (ev_x (ev_xx (ev_pp (t := .s) (t' := .s) (x := .int X) (y := .int X) rfl rfl (mulP_i ⟨by omega, by omega⟩)) (o2 := false) rfl (divP_i (by decide) (by decide))) rfl) rfl (modP_i (by omega)))
      rw [u2]
      exact ⟨_, _, rfl, (fm h0).1, (fm h0).2, ep⟩
    by_cases h7 : t < cells.length
    · rw [decide_eq_true h7] at e7
      by_cases h8 : (10 : Int) ^ 18 ≤ if v < 0 then -v else v
      · rw [decide_eq_true h8] at e8
        let R0 : Int := 2 * ((if v < 0 then -v else v) - 10 ^ 18) + (if decide (v < 0) then 1 else 0)
        have u1 : mSet 6 (mO2 addP (.ex (mO2 mulP (.ex (mC (.int 2))) (.ex (mO2 subP (.ex (mO1 absP (.pl 5))) (.ex (mO2 powP (.ex (mC (.int 10))) (.ex (mC (.int 18))))))))) (.ex (mO1 int1P (.ex (mO2 ltP (.pl 5) (.ex (mC (.int 0)))))))) (drE m V A R V none none pen1) = .nx (drE m V A R V (some (.int R0, .s)) none pen1) := rfl
        have u2 : mSub 0 (mC (.str "rest")) (mO2 divP (.ex (mO1 int1P (.pl 6))) (.pl 1)) (drE m V A R V (some (.int R0, .s)) none pen1) = .nx (drE m V A R V (some (.int R0, .s)) none (penD cells (t + 1) (R0.fdiv m))) :=
          ev_sub (t := .p) (ev_xp (t := .s) (ev_p (t := .s) (x := .int R0) rfl rfl) rfl (divP_i (by omega) (by omega))) rfl (o2 := false) rfl rfl (by decide) (s_rest cells (t + 1) q _)
        have u3 : mRet (mO2 modP (.ex (mO1 int1P (.pl 6))) (.pl 1)) (drE m V A R V (some (.int R0, .s)) none (penD cells (t + 1) (R0.fdiv m))) = .rt (.int (R0.fmod m)) false (drE m V A R V (some (.int R0, .s)) none (penD cells (t + 1) (R0.fdiv m))) :=
          ev_ret (ev_xp (t := .s) (ev_p (t := .s) (x := .int R0) rfl rfl) rfl (modP_i (by omega)))
        rw [ev_seqR ((ev_ifT ((ev_andT e7).trans e8)).trans ((ev_seq u1).trans ((ev_seq u2).trans u3)))]
        exact ⟨_, _, rfl, (fm h0).1, (fm h0).2, ⟨cells, t + 1, R0.fdiv m, rfl, by omega, by omega⟩⟩
      · rw [decide_eq_false h8] at e8
        rw [ev_seq (ev_ifN ((ev_andT e7).trans e8))]
        exact tail
    · rw [decide_eq_false h7] at e7
      rw [ev_seq (ev_ifN (ev_andF e7))]
      exact tail
end K39

set_option Elab.async false
set_option linter.all false
set_option maxRecDepth 100000
set_option maxHeartbeats 1000000
/-! K39M2: picks, words. -/
namespace K39
open PySem DL
/-- one of a list -/
theorem pick_ok {T : Nat} {pen : D} {xs : List D} (h : PenOk T pen) (hT : T ≤ 1000000) (h0 : xs ≠ []) (h1 : xs.length < 1073741824) : ∃ x pen', c__law_pick [pen, .lst xs] = .ok x false (some pen') ∧ x ∈ xs ∧ PenOk (T + 1) pen' := by
  have hl : (0 : Int) < xs.length := by
    have : xs.length ≠ 0 := fun e => h0 (List.eq_nil_of_length_eq_zero e)
    omega
  obtain ⟨r, pen', e, r0, r1, hp⟩ := draw_ok h hT hl (by omega)
  have hr : r.toNat < xs.length := by omega
  exact ⟨xs[r.toNat], pen', mk_rt (ev_ret (ev_px (t := .s) rfl (ev_callIO (t := .p) (dds := []) (x := pen) rfl (ev_cons (ev_p (t := .s) rfl rfl) ev_nil) rfl (by decide) e) rfl (ixP_l r0 (List.getElem?_eq_getElem hr)))), List.getElem_mem hr, hp⟩
def abc : Str := "abcdefghijklmnopqrstuvwxyz"
/-- a letter -/
abbrev Ltr (c : Nat) : Prop := 97 ≤ c ∧ c ≤ 122
theorem abc_len : abc.cps.toList.length = 26 := by decide +kernel
theorem abc_at : ∀ k : Nat, k < 26 → abc.cps.toList[k]? = some (97 + k) := by
  have : (List.range 26).all (fun k => decide (abc.cps.toList[k]? = some (97 + k))) = true := by decide +kernel
  intro k hk
  exact of_decide_eq_true (List.all_eq_true.mp this k (List.mem_range.mpr hk))
theorem abc_ltr : ∀ c ∈ abc.cps.toList, Ltr c := by
  have : abc.cps.toList.all (fun c => decide (97 ≤ c ∧ c ≤ 122)) = true := by decide +kernel
  intro c hc
  exact of_decide_eq_true (List.all_eq_true.mp this c hc)
theorem ix_abc {r : Int} (h0 : 0 ≤ r) (h1 : r < 26) : ixP (.str abc) (.int r) = some (.str ⟨#[97 + r.toNat]⟩, false) := by
  show (L2.atI abc.cps.toList r).map (fun c => (D.str ⟨#[c]⟩, false)) = _
  rw [atI_nat h0 (by rw [abc_len]; omega), abc_at _ (by omega)]
  rfl
theorem pickS_ok {T : Nat} {pen : D} (h : PenOk T pen) (hT : T ≤ 1000000) : ∃ c pen', c__law_pick [pen, .str abc] = .ok (.str ⟨#[c]⟩) false (some pen') ∧ Ltr c ∧ PenOk (T + 1) pen' := by
  obtain ⟨r, pen', e, r0, r1, hp⟩ := draw_ok (m := 26) h hT (by decide) (by decide)
  have hl : lenP (.str abc) = some (.int 26, false) := rfl
  exact ⟨97 + r.toNat, pen', mk_rt (ev_ret (ev_px (t := .s) rfl (ev_callIO (t := .p) (dds := []) (x := pen) rfl (ev_cons (ev_p (t := .s) rfl hl) ev_nil) rfl (by decide) e) rfl (ix_abc r0 r1))), ⟨by omega, by omega⟩, hp⟩
theorem join_single : ∀ cs : List Nat, Str.join "" (cs.map fun c => (⟨#[c]⟩ : Str)) = ⟨cs.toArray⟩
  | [] => rfl
  | [c] => rfl
  | c :: d :: r => by
    have ih := join_single (d :: r)
    show (⟨#[c]⟩ : Str) ++ "" ++ Str.join "" ((d :: r).map fun c => (⟨#[c]⟩ : Str)) = _
    rw [ih]
    show Str.mk (#[c] ++ #[] ++ (d :: r).toArray) = _
    simp
theorem strsD_map : ∀ cs : List Nat, strsD (cs.map fun c => D.str ⟨#[c]⟩) = some (cs.map fun c => (⟨#[c]⟩ : Str))
  | [] => rfl
  | c :: r => by simp [strsD, strsD_map r]
abbrev wdB : ME := mCallIO c__law_pick 0 [mV 2] []
/-- the slots of _law_words -/
def wdE (pen : D) (m : Int) (r s a h : Sl) : EV := [some (pen, .p), some (.int m, .s), some (.str abc, .s), r, s, a, h]
theorem wd_loop {m : Int} : ∀ (ds : List D) (T : Nat) (pen : D) (acc : List Nat) (z : Sl), freeE [z] 0 = true → PenOk T pen → T + ds.length ≤ 1000000 →
    ∃ cs pen', lcE (.nm 4) [4] mYes wdB ds (acc.map fun c => D.str ⟨#[c]⟩) (wdE pen m none z none none) = .ok (.lst ((acc ++ cs).map fun c => D.str ⟨#[c]⟩)) true (wdE pen' m none none none none) ∧ cs.length = ds.length ∧ (∀ c ∈ cs, Ltr c) ∧ PenOk (T + ds.length) pen'
  | [], T, pen, acc, z, hz, hp, hT => ⟨[], pen, by rw [List.append_nil]; rfl, rfl, by simp, hp⟩
  | d :: r, T, pen, acc, z, hz, hp, hT => by
    rw [List.length_cons] at hT
    obtain ⟨c, pen1, e1, hc, hp1⟩ := pickS_ok hp (by omega)
    have hcall : wdB (wdE pen m none (some (d, .s)) none none) = .ok (.str ⟨#[c]⟩) false (wdE pen1 m none (some (d, .s)) none none) :=
      ev_callIO (t := .p) (dds := []) (x := pen) rfl (ev_cons (ev_vs rfl) ev_nil) rfl (by decide) e1
    obtain ⟨cs, pen2, e2, hl, hcs, hp2⟩ := wd_loop (m := m) r (T + 1) pen1 (acc ++ [c]) (some (d, .s)) rfl hp1 (by omega)
    refine ⟨c :: cs, pen2, ?_, by simp [hl], fun x hx => ?_, by rw [List.length_cons]; exact hp2.mono (by omega)⟩
    · have st : lcE (.nm 4) [4] mYes wdB (d :: r) (acc.map fun c => D.str ⟨#[c]⟩) (wdE pen m none z none none) = (match wdB (wdE pen m none (some (d, .s)) none none) with
        | .ok d' _ e2 => lcE (.nm 4) [4] mYes wdB r ((acc.map fun c => D.str ⟨#[c]⟩) ++ [d']) e2
        | _ => .bad) := rfl
      rw [st, hcall]
      have ac : (acc.map fun c => D.str ⟨#[c]⟩) ++ [D.str ⟨#[c]⟩] = (acc ++ [c]).map fun c => D.str ⟨#[c]⟩ := by simp
      show lcE _ _ _ _ r ((acc.map fun c => D.str ⟨#[c]⟩) ++ [D.str ⟨#[c]⟩]) _ = _
      rw [ac, e2]
      simp
    · rcases List.mem_cons.mp hx with rfl | h
      · exact hc
      · exact hcs x h
/-- a name: 1 to 8 small letters -/
def NameOk (s : Str) : Prop := 1 ≤ s.cps.toList.length ∧ s.cps.toList.length ≤ 8 ∧ ∀ c ∈ s.cps.toList, Ltr c
def WordOk (s : Str) : Prop := NameOk s ∧ s.cps.toList.length ≠ 4
def wdS (st hop : Int) (rest : Str) (k : Nat) : Str := (⟨#[97 + ((st + hop * k).fmod 26).toNat]⟩ : Str) ++ rest
theorem wdS_cps (st hop : Int) (rest : Str) (k : Nat) : (wdS st hop rest k).cps.toList = (97 + ((st + hop * k).fmod 26).toNat) :: rest.cps.toList := by
  show (#[97 + ((st + hop * k).fmod 26).toNat] ++ rest.cps).toList = _
  simp
theorem words_nodup {st hop : Int} {rest : Str} {m : Nat} (hm : m ≤ 26) (hh : hop = 1 ∨ hop = 3 ∨ hop = 5 ∨ hop = 7 ∨ hop = 9 ∨ hop = 11) : ((List.range m).map (wdS st hop rest)).Nodup := by
  refine List.Pairwise.map _ ?_ ((List.pairwise_lt_range (n := m)).imp_of_mem fun ha hb h => (⟨h, List.mem_range.mp hb⟩ : _ ∧ _))
  rintro a b ⟨hab, hb⟩ e
  have e1 : (wdS st hop rest a).cps.toList = (wdS st hop rest b).cps.toList := by rw [e]
  rw [wdS_cps, wdS_cps] at e1
  have e2 := (List.cons.inj e1).1
  have f1 := fm (a := st + hop * a) (m := 26) (by decide)
  have f2 := fm (a := st + hop * b) (m := 26) (by decide)
  have e3 : (st + hop * a).fmod 26 = (st + hop * b).fmod 26 := by omega
  rw [Int.fmod_eq_emod_of_nonneg _ (by decide), Int.fmod_eq_emod_of_nonneg _ (by decide)] at e3
  rcases hh with rfl | rfl | rfl | rfl | rfl | rfl <;> omega
theorem words_ok {T m : Nat} {pen : D} (h : PenOk T pen) (hT : T + 100 ≤ 1000000) (hm : m ≤ 26) : ∃ (ws : List Str) (pen' : D), c__law_words [pen, .int m] = .ok (.lst (ws.map D.str)) true (some pen') ∧ ws.length = m ∧ ws.Nodup ∧ (∀ s ∈ ws, WordOk s) ∧ PenOk (T + 10) pen' := by
  obtain ⟨x, pen1, e1, hx, hp1⟩ := pick_ok (xs := [.int 0, .int 0, .int 1, .int 7]) h (by omega) (by simp) (by decide)
  have ⟨q, hq, hq1, hq2⟩ : ∃ q : Nat, x = .int q ∧ q ≤ 7 ∧ q ≠ 3 := by
    simp only [List.mem_cons, List.not_mem_nil, or_false] at hx
    rcases hx with rfl | rfl | rfl | rfl
    · exact ⟨0, rfl, by decide, by decide⟩
    · exact ⟨0, rfl, by decide, by decide⟩
    · exact ⟨1, rfl, by decide, by decide⟩
    · exact ⟨7, rfl, by decide, by decide⟩
  subst hq
  have hlen : (rngD 0 (q : Int)).length = q := by rw [rngD_len]; omega
  obtain ⟨cs, pen2, e2, hl, hcs, hp2⟩ := wd_loop (m := m) (rngD 0 (q : Int)) (T + 1) pen1 [] none rfl hp1 (by omega)
  obtain ⟨st, pen3, e3, s0, s1, hp3⟩ := draw_ok (m := 26) hp2 (by omega) (by decide) (by decide)
  obtain ⟨y, pen4, e4, hy, hp4⟩ := pick_ok (xs := [.int 1, .int 3, .int 5, .int 7, .int 9, .int 11]) hp3 (by omega) (by simp) (by decide)
  have ⟨hop, hh0, hh⟩ : ∃ hop : Int, y = .int hop ∧ (hop = 1 ∨ hop = 3 ∨ hop = 5 ∨ hop = 7 ∨ hop = 9 ∨ hop = 11) := by
    simp only [List.mem_cons, List.not_mem_nil, or_false] at hy
    rcases hy with rfl | rfl | rfl | rfl | rfl | rfl <;> exact ⟨_, rfl, by simp⟩
  subst hh0
  let rest : Str := ⟨cs.toArray⟩
  let R : Sl := some (.str rest, .s)
  let A : Sl := some (.int st, .s)
  let Z : Sl := some (.int hop, .s)
  have t0 : mSet 2 (mC (.str "abcdefghijklmnopqrstuvwxyz")) (startE 7 true [pen, .int m]) = .nx (wdE pen m none none none none) := rfl
  have rg : mRg1 (mCallIO c__law_pick 0 [mLst [mC (.int 0), mC (.int 0), mC (.int 1), mC (.int 7)]] []) (wdE pen m none none none none) = .ok (rngD 0 (q : Int)) (wdE pen1 m none none none none) :=
    ev_rg (ev_callIO (t := .p) (dds := []) (x := pen) rfl (ev_cons (o := true) rfl ev_nil) rfl (by decide) e1) (by omega) (by omega)
  have hlc : mLc (.nm 4) [4] (mRg1 (mCallIO c__law_pick 0 [mLst [mC (.int 0), mC (.int 0), mC (.int 1), mC (.int 7)]] [])) mYes wdB (wdE pen m none none none none) = .ok (.lst (cs.map fun c => D.str ⟨#[c]⟩)) true (wdE pen2 m none none none none) :=
    ev_lc rg e2 (by decide)
  have hj : joinP (.str "") (.lst (cs.map fun c => D.str ⟨#[c]⟩)) = some (.str rest, false) := by
    show (match strsD (cs.map fun c => D.str ⟨#[c]⟩) with
      | some (ss : List Str) => match decide ((ss.map Str.length).sum + ss.length * Str.length "" ≤ 16777216) with
        | true => some (D.str (Txt.join "" ss), false)
        | false => none
      | none => none) = _
    rw [strsD_map]
    have q : decide (((cs.map fun c => (⟨#[c]⟩ : Str)).map Str.length).sum + (cs.map fun c => (⟨#[c]⟩ : Str)).length * Str.length "" ≤ 16777216) = true := by
      refine decide_eq_true ?_
      have : ∀ l : List Nat, ((l.map fun c => (⟨#[c]⟩ : Str)).map Str.length).sum = l.length := fun l => by
        induction l with
        | nil => rfl
        | cons a l ih => simp [Str.length] at ih ⊢; omega
      rw [this, show Str.length "" = 0 from rfl]
      omega
    simp only [q]
    rw [TL.join_eq, join_single]
  have t1 : mSet 3 (mJoin (mC (.str "")) (.ex (mLc (.nm 4) [4] (mRg1 (mCallIO c__law_pick 0 [mLst [mC (.int 0), mC (.int 0), mC (.int 1), mC (.int 7)]] [])) mYes wdB))) (wdE pen m none none none none) = .nx (wdE pen2 m R none none none) := by
    have : mJoin (mC (.str "")) (.ex (mLc (.nm 4) [4] (mRg1 (mCallIO c__law_pick 0 [mLst [mC (.int 0), mC (.int 0), mC (.int 1), mC (.int 7)]] [])) mYes wdB)) (wdE pen m none none none none) = .ok (.str rest) false (wdE pen2 m none none none none) := by
      show (match mLc (.nm 4) [4] (mRg1 (mCallIO c__law_pick 0 [mLst [mC (.int 0), mC (.int 0), mC (.int 1), mC (.int 7)]] [])) mYes wdB (wdE pen m none none none none) with
        | .ok d _ e => liftP (joinP (.str "") d) e
        | .exc c fs e => .exc c fs e
        | .bad => .bad) = _
      rw [hlc]
      show liftP (joinP (.str "") _) _ = _
      rw [hj]
      rfl
    exact ev_set this rfl
  have t2 : mUn (.tp [.nm 5, .nm 6]) (mTup [mCallIO c__law_draw 0 [mC (.int 26)] [], mCallIO c__law_pick 0 [mLst [mC (.int 1), mC (.int 3), mC (.int 5), mC (.int 7), mC (.int 9), mC (.int 11)]] []]) (wdE pen2 m R none none none) = .nx (wdE pen4 m R none A Z) :=
    ev_un (ev_tup (ev_cons (ev_callIO (t := .p) (dds := []) (x := pen2) rfl (ev_cons (o := false) rfl ev_nil) rfl (by decide) e3) (ev_cons (ev_callIO (t := .p) (dds := []) (x := pen3) rfl (ev_cons (o := true) rfl ev_nil) rfl (by decide) e4) ev_nil))) rfl
  have it : ∀ k : Nat, mO2 addP (.ex (mO2 ixP (.pl 2) (.ex (mO2 modP (.ex (mO1 int1P (.ex (mO2 addP (.pl 5) (.ex (mO2 mulP (.pl 6) (.pl 4))))))) (.ex (mC (.int 26))))))) (.pl 3) ((wdE pen4 m R none A Z).set 4 (some (.int k, .s))) = .ok (.str (wdS st hop rest k)) false ((wdE pen4 m R none A Z).set 4 (some (.int k, .s))) := fun k => by
    have f := fm (a := st + hop * k) (m := 26) (by decide)
    refine ev_xp (t := .s) (x := .str ⟨#[97 + ((st + hop * k).fmod 26).toNat]⟩) (y := .str rest) (ev_px (t := .s) (t' := .s) (x0 := .str abc) (x := .str abc) rfl (ev_xx (x := .int (st + hop * k)) (ev_x (ev_px (t := .s) (t' := .s) (x0 := .int st) (x := .int st) rfl (ev_pp (t := .s) (t' := .s) (x := .int hop) (y := .int k) rfl rfl (mulP_j ?_)) rfl rfl) rfl) (o2 := false) rfl (modP_i (by decide))) rfl (ix_abc f.1 f.2)) rfl ?_
    · rcases hh with rfl | rfl | rfl | rfl | rfl | rfl <;> decide
    · have hln : (⟨#[97 + ((st + hop * k).fmod 26).toNat]⟩ : Str).length + rest.length ≤ sizeLine := by
        have e1 : (⟨#[97 + ((st + hop * k).fmod 26).toNat]⟩ : Str).length = 1 := rfl
        have e2 : rest.length = cs.length := by simp [rest, Str.length]
        rw [sizeLine_eq, e1, e2]; omega
      show (match decide ((⟨#[97 + ((st + hop * k).fmod 26).toNat]⟩ : Str).length + rest.length ≤ sizeLine) with | true => some (D.str ((⟨#[97 + ((st + hop * k).fmod 26).toNat]⟩ : Str) ++ rest), false) | false => none) = _
      rw [decide_eq_true hln]
      rfl
  let fD : D → D := fun d => match d with | .int k => .str (wdS st hop rest k.toNat) | _ => .non
  have t3 : mLc (.nm 4) [4] (mRg1 (mV 1)) mYes (mO2 addP (.ex (mO2 ixP (.pl 2) (.ex (mO2 modP (.ex (mO1 int1P (.ex (mO2 addP (.pl 5) (.ex (mO2 mulP (.pl 6) (.pl 4))))))) (.ex (mC (.int 26))))))) (.pl 3)) (wdE pen4 m R none A Z) = .ok (.lst ((rngD 0 (m : Int)).map fD)) true (wdE pen4 m R none A Z) :=
    ev_lc (ev_rg (m := mV 1) (o := false) rfl (by omega) (by omega)) (lc_map (env := wdE pen4 m R none A Z) (i := 4) (f := fD) (by simp [wdE]) (rngD 0 (m : Int)) [] none fun d hd => by
      obtain ⟨k, rfl, hk⟩ := rngD_mem d hd
      exact ⟨false, it k⟩) (by decide)
  have ew : (rngD 0 (m : Int)).map fD = ((List.range m).map (wdS st hop rest)).map D.str := by
    rw [rngD_nat, List.map_map, List.map_map]
    rfl
  rw [ew] at t3
  refine ⟨(List.range m).map (wdS st hop rest), pen4, ?_, by simp, words_nodup hm hh, fun s hs => ?_, hp4.mono (by omega)⟩
  · exact mk_rt (b := b__law_words) ((ev_seq t0).trans ((ev_seq t1).trans ((ev_seq t2).trans (ev_ret t3))))
  · obtain ⟨k, -, rfl⟩ := List.mem_map.mp hs
    have f := fm (a := st + hop * k) (m := 26) (by decide)
    have hr : rest.cps.toList = cs := by simp [rest]
    have hln : (wdS st hop rest k).cps.toList.length = q + 1 := by
      rw [wdS_cps, hr, List.length_cons, hl, hlen]
    refine ⟨⟨by omega, by omega, ?_⟩, by omega⟩
    rw [wdS_cps, hr]
    intro c hc
    rcases List.mem_cons.mp hc with rfl | hc
    · constructor <;> omega
    · exact hcs c hc
end K39

set_option Elab.async false
set_option linter.all false
set_option maxRecDepth 100000
set_option maxHeartbeats 1000000
/-! K39M3: names checked, a Table made. -/
namespace K39
open PySem DL
def sl (ss : List Str) : List D := ss.map D.str
theorem depStrs : ∀ ss : List Str, depL (sl ss) = some 0
  | [] => rfl
  | x :: r => by
    have := depStrs r
    unfold sl at this
    simp [sl, depL, depD, this]
theorem okDepStrs (ss : List Str) : okDep (.lst (sl ss)) = true := by
  unfold okDep depD
  rw [depStrs]
  rfl
theorem okDepStrsT (ss : List Str) : okDep (.tup (sl ss)) = true := by
  unfold okDep depD
  rw [depStrs]
  rfl
theorem eqD_nilS (ss : List Str) : eqD (.lst (sl ss)) (.lst []) = decide (ss = []) := by
  cases ss <;> simp [eqD, eqL, sl]
theorem neP_nilS (ss : List Str) : neP (.lst (sl ss)) (.lst []) = some (.bl (!decide (ss = [])), false) := by
  unfold neP
  rw [okDepStrs, eqD_nilS]
  rfl
theorem erase_map : ∀ (l : List Str) (k : Nat), (l.map D.str).eraseIdx k = (l.eraseIdx k).map D.str
  | [], _ => rfl
  | x :: r, 0 => rfl
  | x :: r, k + 1 => by
    show D.str x :: (r.map D.str).eraseIdx k = D.str x :: (r.eraseIdx k).map D.str
    rw [erase_map r k]
theorem append_s {ss : List Str} {y : Str} (h : ss.length ≤ 1000000) : appendP (.lst (sl ss)) [.str y] = some (.lst (sl (ss ++ [y])), .non) := by
  show (match decide ((sl ss).length < sizeLine) with | true => some (D.lst (sl ss ++ [D.str y]), D.non) | false => none) = _
  have : decide ((sl ss).length < sizeLine) = true := by
    refine decide_eq_true ?_
    have : (sl ss).length = ss.length := by simp [sl]
    rw [this, sizeLine_eq]; omega
  rw [this]
  simp [sl]
theorem perm_erase {y : Str} : ∀ {l : List Str} {k : Nat}, l[k]? = some y → (y :: l.eraseIdx k).Perm l
  | [], _, h => by simp at h
  | x :: r, 0, h => by
    have : x = y := by simpa using h
    subst this
    exact List.Perm.refl _
  | x :: r, k + 1, h => (List.Perm.swap x y _).trans (List.Perm.cons x (perm_erase (l := r) (k := k) (by simpa using h)))
theorem ltr_mem {c : Nat} (h : Ltr c) : c ∈ abc.cps.toList := by
  have key : (List.range 123).all (fun c => decide (97 ≤ c) == false || decide (c ∈ abc.cps.toList)) = true := by decide +kernel
  have := List.all_eq_true.mp key c (List.mem_range.mpr (by omega))
  rw [decide_eq_true h.1] at this
  simpa using this
theorem bls_true : ∀ n : Nat, bls (List.replicate n (.bl true)) = some (List.replicate n true)
  | 0 => rfl
  | n + 1 => by
    rw [List.replicate_succ, List.replicate_succ]
    simp [bls, bls_true n]
theorem all_true (n : Nat) : allP (.lst (List.replicate n (.bl true))) = some (.bl true, false) := by
  show (bls (List.replicate n (.bl true))).map _ = _
  rw [bls_true]
  simp
theorem nm_check {v : Sl} : ∀ (cs : List Nat) (n : Nat) (z : Sl), freeE [z] 0 = true → (∀ c ∈ cs, Ltr c) →
    lcE (.nm 1) [1] mYes (mO2 (inP false) (.pl 1) (.ex (mC (.str abc)))) (cs.map fun c => D.str ⟨#[c]⟩) (List.replicate n (D.bl true)) [v, z] = .ok (.lst (List.replicate (n + cs.length) (D.bl true))) true [v, none]
  | [], n, z, _, _ => rfl
  | c :: r, n, z, hz, h => by
    have e : mO2 (inP false) (.pl 1) (.ex (mC (.str abc))) [v, some (.str ⟨#[c]⟩, .s)] = .ok (.bl true) false [v, some (.str ⟨#[c]⟩, .s)] := by
      refine ev_px (t := .s) (t' := .s) (m2 := mC (.str abc)) (y := .str abc) (o2 := false) (e2 := [v, some (.str ⟨#[c]⟩, .s)]) rfl rfl rfl ?_
      show some (D.bl (xor false (decide (c ∈ abc.cps.toList))), false) = _
      rw [decide_eq_true (ltr_mem (h c List.mem_cons_self))]
      rfl
    show (match mO2 (inP false) (.pl 1) (.ex (mC (.str abc))) [v, some (.str ⟨#[c]⟩, .s)] with
      | .ok d' _ e2 => lcE (.nm 1) [1] mYes (mO2 (inP false) (.pl 1) (.ex (mC (.str abc)))) (r.map fun c => D.str ⟨#[c]⟩) (List.replicate n (D.bl true) ++ [d']) e2
      | _ => .bad) = _
    rw [e]
    show lcE _ _ _ _ (r.map fun c => D.str ⟨#[c]⟩) (List.replicate n (D.bl true) ++ [D.bl true]) _ = _
    rw [← List.replicate_succ', nm_check r (n + 1) _ rfl fun c hc => h c (List.mem_cons_of_mem _ hc)]
    rw [List.length_cons, show n + 1 + r.length = n + (r.length + 1) by omega]
theorem is_name_ok {s : Str} (h : NameOk s) : c_is_name [.str s] = .ok (.bl true) false none := by
  obtain ⟨h1, h2, h3⟩ := h
  have e3 : mLc (.nm 1) [1] (itSq (mV 0)) (mYes) (mO2 (inP false) (.pl 1) (.ex (mC (.str abc)))) [some (.str s, .s), none] = .ok (.lst (List.replicate (0 + s.cps.toList.length) (.bl true))) true [some (.str s, .s), none] := by
    unfold mLc
    rw [show decide (0 ∉ [1]) = true from rfl]
    exact nm_check s.cps.toList 0 none rfl h3
  have e2 : mCh (cmpP fun i j => decide (i ≤ j)) (cmpP fun i j => decide (i ≤ j)) (mC (.int 1)) (mO1 lenP (.pl 0)) (mC (.int 8)) [some (.str s, .s), none] = .ok (.bl true) false [some (.str s, .s), none] := by
    have hl : (s.length : Nat) = s.cps.toList.length := by simp [Str.length]
    show (match (some (D.bl (decide ((1 : Int) ≤ (s.length : Int))), false) : RP) with
      | some (.bl true, false) => liftP (some (.bl (decide ((s.length : Int) ≤ 8)), false)) [some (.str s, .s), none]
      | some (.bl false, false) => RE.ok (.bl false) false [some (.str s, .s), none]
      | _ => .bad) = _
    rw [decide_eq_true (by omega : (1 : Int) ≤ (s.length : Int)), decide_eq_true (by omega : (s.length : Int) ≤ 8)]
    rfl
  have z : b_is_name [some (.str s, .s), none] = .rt (.bl true) false [some (.str s, .s), none] := by
    refine ev_ret ?_
    show (match mAndV (mCh (cmpP fun i j => decide (i ≤ j)) (cmpP fun i j => decide (i ≤ j)) (mC (.int 1)) (mO1 lenP (.pl 0)) (mC (.int 8))) (mO1 allP (.ex (mLc (.nm 1) [1] (itSq (mV 0)) (mYes) (mO2 (inP false) (.pl 1) (.ex (mC (.str abc))))))) [some (.str s, .s), none] with | r => r) = _
    unfold mAndV blE bindE
    rw [e2]
    exact ev_x e3 (all_true _)
  show (match b_is_name [some (.str s, .s), none] with
    | .nx e => RC.ok .non false (finE false e)
    | .rt d o e => .ok d o (finE false e)
    | .exc c fs e => .exc c fs (finE false e)
    | _ => .bad) = _
  rw [z]
  rfl
def prs : List Str → List D
  | a :: b :: r => .tup [.str a, .str b] :: prs (b :: r)
  | _ => []
theorem zip_prs : ∀ ss : List Str, zipD (sl ss) ((sl ss).drop 1) = prs ss
  | [] => rfl
  | [a] => rfl
  | a :: b :: r => by
    have ih := zip_prs (b :: r)
    show D.tup [.str a, .str b] :: zipD (sl (b :: r)) ((sl (b :: r)).drop 1) = _
    rw [ih]
    rfl
theorem cut1 (xs : List D) : cutD xs (some 1) none = xs.drop 1 := by
  unfold cutD
  have h : HT.sIx xs.length 0 (some 1) = min 1 xs.length := HT.sIx_nat _ _ 1
  have h2 : HT.sIx xs.length xs.length none = xs.length := rfl
  rw [h, h2]
  cases xs with
  | nil => rfl
  | cons x r =>
    rw [show min 1 (x :: r).length = 1 by simp]
    exact List.take_of_length_le (by simp)
theorem lt_of_sLe {a b : Str} (h : sLe a b = true) (n : a ≠ b) : strLt a b = true := by
  unfold strLt
  refine decide_eq_true ?_
  rcases Classical.em (a.cps.toList < b.cps.toList) with h1 | h1
  · exact h1
  · exact absurd (sLe_anti h (sLe_iff.mpr h1)) n
theorem asc_loop {v : Sl} : ∀ (ss : List Str) (n : Nat) (z1 z2 : Sl), freeE [z1] 0 = true → freeE [z2] 0 = true → ss.Pairwise (fun a b => sLe a b = true) → ss.Nodup →
    lcE (.tp [.nm 1, .nm 2]) [1, 2] mYes (mO2 ltP (.pl 1) (.pl 2)) (prs ss) (List.replicate n (D.bl true)) [v, z1, z2] = .ok (.lst (List.replicate (n + (ss.length - 1)) (D.bl true))) true [v, none, none]
  | [], n, z1, z2, _, _, _, _ => rfl
  | [a], n, z1, z2, _, _, _, _ => rfl
  | a :: b :: r, n, z1, z2, h1, h2, hs, hn => by
    have hs1 := List.pairwise_cons.mp hs
    have hn1 := List.nodup_cons.mp hn
    have hlt : strLt a b = true := lt_of_sLe (hs1.1 b List.mem_cons_self) fun e => hn1.1 (by rw [e]; exact List.mem_cons_self)
    have e : mO2 ltP (.pl 1) (.pl 2) [v, some (.str a, .s), some (.str b, .s)] = .ok (.bl true) false [v, some (.str a, .s), some (.str b, .s)] := by
      refine ev_pp (t := .s) (t' := .s) rfl rfl ?_
      show some (D.bl (strLt a b), false) = _
      rw [hlt]
    show (match mO2 ltP (.pl 1) (.pl 2) [v, some (.str a, .s), some (.str b, .s)] with
      | .ok d' _ e2 => lcE (.tp [.nm 1, .nm 2]) [1, 2] mYes (mO2 ltP (.pl 1) (.pl 2)) (prs (b :: r)) (List.replicate n (D.bl true) ++ [d']) e2
      | _ => .bad) = _
    rw [e]
    show lcE _ _ _ _ (prs (b :: r)) (List.replicate n (D.bl true) ++ [D.bl true]) _ = _
    rw [← List.replicate_succ', asc_loop (b :: r) (n + 1) _ _ rfl rfl hs1.2 hn1.2]
    have q : n + 1 + ((b :: r).length - 1) = n + ((a :: b :: r).length - 1) := by simp; omega
    rw [q]
theorem ascends_ok {ss : List Str} (hs : ss.Pairwise (fun a b => sLe a b = true)) (hn : ss.Nodup) : c_ascends [.lst (sl ss)] = .ok (.bl true) false none := by
  have zi : mZip (mV 0) (mSl (.pl 0) (some (mC (.int 1))) none) [some (.lst (sl ss), .s), none, none] = .ok (prs ss) [some (.lst (sl ss), .s), none, none] := by
    show RI.ok (zipD (sl ss) (cutD (sl ss) (some 1) none)) _ = _
    rw [cut1, zip_prs]
  have e3 : mLc (.tp [.nm 1, .nm 2]) [1, 2] (mZip (mV 0) (mSl (.pl 0) (some (mC (.int 1))) none)) (mYes) (mO2 ltP (.pl 1) (.pl 2)) [some (.lst (sl ss), .s), none, none] = .ok (.lst (List.replicate (0 + (ss.length - 1)) (D.bl true))) true [some (.lst (sl ss), .s), none, none] := by
    unfold mLc
    rw [show decide (0 ∉ [1, 2]) = true from rfl, zi]
    exact asc_loop ss 0 none none rfl rfl hs hn
  have z : b_ascends [some (.lst (sl ss), .s), none, none] = .rt (.bl true) false [some (.lst (sl ss), .s), none, none] := ev_ret (ev_x e3 (all_true _))
  show (match b_ascends [some (.lst (sl ss), .s), none, none] with
    | .nx e => RC.ok .non false (finE false e)
    | .rt d o e => .ok d o (finE false e)
    | .exc c fs e => .exc c fs (finE false e)
    | _ => .bad) = _
  rw [z]
  rfl
theorem strsD_sl : ∀ ss : List Str, strsD (sl ss) = some ss
  | [] => rfl
  | c :: r => by
    have := strsD_sl r
    unfold sl at this
    simp [strsD, sl, this]
theorem sortP_sl {ss : List Str} (h : ss.length < 64) : sortP (.lst (sl ss)) = some (.lst (sl (sSort ss)), true) := by
  show (match strsD (sl ss) with
    | some ss => match decide (ss.length < 64) with
      | true => some (D.lst ((sSort ss).map D.str), true)
      | false => none
    | none => none) = _
  rw [strsD_sl]
  show (match decide (ss.length < 64) with
      | true => some (D.lst ((sSort ss).map D.str), true)
      | false => none) = _
  rw [decide_eq_true h]
  rfl
def SeqS (v : D) (ss : List Str) : Prop := v = .lst (sl ss) ∨ v = .tup (sl ss)
theorem sortQ_s {v : D} {ss : List Str} (h : SeqS v ss) (hl : ss.length < 64) : sortQ v = some (.lst (sl (sSort ss)), true) := by
  rcases h with rfl | rfl <;> exact sortP_sl hl
theorem are_unlike_ok {v : D} {ss : List Str} (h : SeqS v ss) (hl : ss.length < 64) (hn : ss.Nodup) : c_are_unlike [v] = .ok (.bl true) false none := by
  have e := ascends_ok (sSort_sorted ss) ((sSort_perm ss).nodup_iff.mpr hn)
  have z : b_are_unlike [some (v, .s)] = .rt (.bl true) false [some (v, .s)] :=
    ev_ret (ev_call (dds := []) (ev_cons (ev_p (t := .s) rfl (sortQ_s h hl)) ev_nil) e)
  show (match b_are_unlike [some (v, .s)] with
    | .nx e => RC.ok .non false (finE false e)
    | .rt d o e => .ok d o (finE false e)
    | .exc c fs e => .exc c fs (finE false e)
    | _ => .bad) = _
  rw [z]
  rfl
theorem ann_loop {v a b : Sl} : ∀ (ss : List Str) (n : Nat) (z : Sl), freeE [z] 0 = true → (∀ s ∈ ss, NameOk s) →
    lcE (.nm 3) [3] mYes (mCall c_is_name [mV 3] []) (sl ss) (List.replicate n (D.bl true)) [v, a, b, z] = .ok (.lst (List.replicate (n + ss.length) (D.bl true))) true [v, a, b, none]
  | [], n, z, _, _ => rfl
  | s :: r, n, z, hz, h => by
    have e : mCall c_is_name [mV 3] [] [v, a, b, some (.str s, .s)] = .ok (.bl true) false [v, a, b, some (.str s, .s)] :=
      ev_call (dds := []) (ev_cons (ev_vs rfl) ev_nil) (is_name_ok (h s List.mem_cons_self))
    show (match mCall c_is_name [mV 3] [] [v, a, b, some (.str s, .s)] with
      | .ok d' _ e2 => lcE (.nm 3) [3] mYes (mCall c_is_name [mV 3] []) (sl r) (List.replicate n (D.bl true) ++ [d']) e2
      | _ => .bad) = _
    rw [e]
    show lcE _ _ _ _ (sl r) (List.replicate n (D.bl true) ++ [D.bl true]) _ = _
    rw [← List.replicate_succ', ann_loop r (n + 1) _ rfl fun x hx => h x (List.mem_cons_of_mem _ hx)]
    have q : n + 1 + r.length = n + (s :: r).length := by simp; omega
    rw [q]
theorem are_names_ok {v : D} {ss : List Str} {lo hi : Int} (h : SeqS v ss) (hl : ss.length < 64) (hn : ss.Nodup) (hs : ∀ s ∈ ss, NameOk s) (h1 : lo ≤ ss.length) (h2 : (ss.length : Int) ≤ hi) : c_are_names [v, .int lo, .int hi] = .ok (.bl true) false none := by
  let E : EV := [some (v, .s), some (.int lo, .s), some (.int hi, .s), none]
  have hlen : lenP v = some (.int ss.length, false) := by
    rcases h with rfl | rfl
    · show some (D.int (sl ss).length, false) = _
      simp [sl]
    · show some (D.int (sl ss).length, false) = _
      simp [sl]
  have t1 : mNotT (mT (mCall c_is_listed [mV 0] [])) E = .ok false E := by
    have e : c_is_listed [v] = .ok (.bl true) false none := by rcases h with rfl | rfl <;> rfl
    exact ev_not (ev_T (ev_call (dds := []) (ev_cons (ev_vs rfl) ev_nil) e))
  have t2 : mNotT (mT (mCh (cmpP fun i j => decide (i ≤ j)) (cmpP fun i j => decide (i ≤ j)) (mV 1) (mO1 lenP (.pl 0)) (mV 2))) E = .ok false E := by
    refine ev_not (k := true) (ev_T (o := false) ?_)
    have e : mO1 lenP (.pl 0) E = .ok (.int ss.length) false E := ev_p (t := .s) rfl hlen
    show (match mO1 lenP (.pl 0) E with
      | .ok d _ e => (match (cmpP (fun i j => decide (i ≤ j)) (.int lo) d : RP) with
        | some (.bl true, false) => bindE (mV 2) (fun z => liftP (cmpP (fun i j => decide (i ≤ j)) d z)) e
        | some (.bl false, false) => RE.ok (.bl false) false e
        | _ => .bad)
      | .exc c fs e => .exc c fs e
      | .bad => .bad) = _
    rw [e]
    show (match (some (D.bl (decide (lo ≤ (ss.length : Int))), false) : RP) with
        | some (.bl true, false) => RE.ok (.bl (decide ((ss.length : Int) ≤ hi))) false E
        | some (.bl false, false) => RE.ok (.bl false) false E
        | _ => .bad) = _
    rw [decide_eq_true h1, decide_eq_true h2]
  have e3 : mLc (.nm 3) [3] (itSq (mV 0)) (mYes) (mCall c_is_name [mV 3] []) E = .ok (.lst (List.replicate (0 + ss.length) (D.bl true))) true E := by
    have it : itSq (mV 0) E = .ok (sl ss) E := by rcases h with rfl | rfl <;> rfl
    unfold mLc
    rw [show decide (0 ∉ [3]) = true from rfl, it]
    exact ann_loop ss 0 none rfl hs
  have z : b_are_names E = .rt (.bl true) false E := by
    unfold b_are_names
    rw [ev_seq (ev_ifN ((ev_orF t1).trans t2))]
    refine ev_ret ?_
    unfold mAndV blE bindE
    rw [ev_x e3 (all_true _)]
    exact ev_call (dds := []) (ev_cons (ev_vs rfl) ev_nil) (are_unlike_ok h hl hn)
  show (match b_are_names E with
    | .nx e => RC.ok .non false (finE false e)
    | .rt d o e => .ok d o (finE false e)
    | .exc c fs e => .exc c fs (finE false e)
    | _ => .bad) = _
  rw [z]
  rfl
theorem flat_sl (ss : List Str) : (sl ss).all flatD = true := by
  unfold sl
  rw [List.all_map]
  exact List.all_eq_true.mpr fun _ _ => rfl
theorem hasD_sl (s : Str) (ss : List Str) : hasD (.str s) (sl ss) = decide (s ∈ ss) := by
  unfold hasD sl
  rw [List.any_map]
  induction ss with
  | nil => rfl
  | cons x r ih =>
    rw [List.any_cons, ih]
    show (x == s || decide (s ∈ r)) = _
    by_cases h : x = s
    · subst h; simp
    · have h' : ¬ s = x := fun e => h e.symm
      simp [h, h']
theorem in_seq {neg : Bool} {s : Str} {v : D} {ss : List Str} (h : SeqS v ss) : inP neg (.str s) v = some (.bl (xor neg (decide (s ∈ ss))), false) := by
  have : inSeq neg (.str s) (sl ss) = some (.bl (xor neg (decide (s ∈ ss))), false) := by
    unfold inSeq
    rw [flat_sl, hasD_sl]
    rfl
  rcases h with rfl | rfl <;> exact this
theorem key_loop {a b c d : Sl} {v : D} {cs : List Str} {t : Tag} (hv : SeqS v cs) : ∀ (ss : List Str) (n : Nat) (z : Sl), freeE [z] 0 = true → (∀ s ∈ ss, s ∈ cs) →
    lcE (.nm 5) [5] mYes (mO2 (inP false) (.pl 5) (.pl 2)) (sl ss) (List.replicate n (D.bl true)) [a, b, some (v, t), c, d, z] = .ok (.lst (List.replicate (n + ss.length) (D.bl true))) true [a, b, some (v, t), c, d, none]
  | [], n, z, _, _ => rfl
  | s :: r, n, z, hz, h => by
    have e : mO2 (inP false) (.pl 5) (.pl 2) [a, b, some (v, t), c, d, some (.str s, .s)] = .ok (.bl true) false [a, b, some (v, t), c, d, some (.str s, .s)] := by
      refine ev_pp (t := .s) (t' := t) rfl rfl ?_
      rw [in_seq hv, decide_eq_true (h s List.mem_cons_self)]
      rfl
    show (match mO2 (inP false) (.pl 5) (.pl 2) [a, b, some (v, t), c, d, some (.str s, .s)] with
      | .ok d' _ e2 => lcE (.nm 5) [5] mYes (mO2 (inP false) (.pl 5) (.pl 2)) (sl r) (List.replicate n (D.bl true) ++ [d']) e2
      | _ => .bad) = _
    rw [e]
    show lcE _ _ _ _ (sl r) (List.replicate n (D.bl true) ++ [D.bl true]) _ = _
    rw [← List.replicate_succ', key_loop hv r (n + 1) _ rfl fun x hx => h x (List.mem_cons_of_mem _ hx)]
    have q : n + 1 + r.length = n + (s :: r).length := by simp; omega
    rw [q]
/-- columns that a table takes -/
structure ColsOk (cs : List Str) : Prop where
  nd : cs.Nodup
  nm : ∀ s ∈ cs, NameOk s
  ge : 1 ≤ cs.length
  le : cs.length ≤ 5
structure KeysOk (us cs : List Str) : Prop where
  nd : us.Nodup
  sub : ∀ s ∈ us, s ∈ cs
  le : us.length ≤ 5
def KindOk (k : Str) : Prop := k = "heap" ∨ k = "set"
def tbl (n : Str) (cs us : List Str) (k : Str) : D := .obj 0 [.str n, .tup (sl cs), .tup (sl (sSort us)), .str k]
theorem tup_s {v : D} {ss : List Str} (h : SeqS v ss) : tupleP v = some (.tup (sl ss), false) := by
  rcases h with rfl | rfl <;> rfl
theorem init_ok {n k : Str} {cs us : List Str} {v u : D} (hn : NameOk n) (hc : ColsOk cs) (hu : KeysOk us cs) (hk : KindOk k) (hv : SeqS v cs) (hu2 : SeqS u us) :
    c_Table___init__ [.obj 0 [], .str n, v, u, .str k] = .ok .non false (some (tbl n cs us k)) := by
  let E (o : D) : EV := [some (o, .p), some (.str n, .s), some (v, .s), some (u, .s), some (.str k, .s), none]
  have t1 : mNotT (mT (mCall c_is_name [mV 1] [])) (E (.obj 0 [])) = .ok false (E (.obj 0 [])) := ev_not (ev_T (ev_call (dds := []) (ev_cons (ev_vs rfl) ev_nil) (is_name_ok hn)))
  have t2 : mNotT (mT (mCall c_are_names [mV 2, mC (.int 1), mC (.int 5)] [])) (E (.obj 0 [])) = .ok false (E (.obj 0 [])) :=
    ev_not (ev_T (ev_call (dds := []) (ev_cons (ev_vs rfl) (ev_cons (o := false) rfl (ev_cons (o := false) rfl ev_nil))) (are_names_ok hv (by have := hc.le; omega) hc.nd hc.nm (by have := hc.ge; omega) (by have := hc.le; omega))))
  have t3 : mNotT (mT (mCall c_are_names [mV 3, mC (.int 0), mC (.int 5)] [])) (E (.obj 0 [])) = .ok false (E (.obj 0 [])) :=
    ev_not (ev_T (ev_call (dds := []) (ev_cons (ev_vs rfl) (ev_cons (o := false) rfl (ev_cons (o := false) rfl ev_nil))) (are_names_ok hu2 (by have := hu.le; omega) hu.nd (fun s h => hc.nm s (hu.sub s h)) (by omega) (by have := hu.le; omega))))
  have e4 : mLc (.nm 5) [5] (itSq (mV 3)) (mYes) (mO2 (inP false) (.pl 5) (.pl 2)) (E (.obj 0 [])) = .ok (.lst (List.replicate (0 + us.length) (D.bl true))) true (E (.obj 0 [])) := by
    have it : itSq (mV 3) (E (.obj 0 [])) = .ok (sl us) (E (.obj 0 [])) := by rcases hu2 with rfl | rfl <;> rfl
    unfold mLc
    rw [show decide (0 ∉ [5]) = true from rfl, it]
    exact key_loop hv us 0 none rfl hu.sub
  have t4 : mNotT (mT (mO1 allP (.ex (mLc (.nm 5) [5] (itSq (mV 3)) (mYes) (mO2 (inP false) (.pl 5) (.pl 2)))))) (E (.obj 0 [])) = .ok false (E (.obj 0 [])) := ev_not (ev_T (ev_x e4 (all_true _)))
  have t5 : mNotT (mT (mO1 (isiP anc [0, 1] [.str]) (.pl 4))) (E (.obj 0 [])) = .ok false (E (.obj 0 [])) := rfl
  have t6 : mT (mO2 (inP true) (.pl 4) (.ex (mC (.tup [.str "heap", .str "set"])))) (E (.obj 0 [])) = .ok false (E (.obj 0 [])) := by
    rcases hk with rfl | rfl <;> rfl
  have s5 : mFld 0 ix_name (mV 1) (E (.obj 0 [])) = .nx (E (.obj 0 [.str n])) := rfl
  have s6 : mFld 0 ix_columns (mO1 tupleP (.pl 2)) (E (.obj 0 [.str n])) = .nx (E (.obj 0 [.str n, .tup (sl cs)])) := by
    unfold mFld bindS
    rw [ev_p (t := .s) (env := E (.obj 0 [.str n])) (x := v) rfl (tup_s hv)]
    rfl
  have s7 : mFld 0 ix_unique (mO1 tupleP (.ex (mO1 sortQ (.pl 3)))) (E (.obj 0 [.str n, .tup (sl cs)])) = .nx (E (.obj 0 [.str n, .tup (sl cs), .tup (sl (sSort us))])) := by
    unfold mFld bindS
    rw [ev_x (env := E (.obj 0 [.str n, .tup (sl cs)])) (ev_p (t := .s) (x := u) rfl (sortQ_s hu2 (by have := hu.le; omega))) (rfl : tupleP (.lst (sl (sSort us))) = some (.tup (sl (sSort us)), false))]
    rfl
  have s8 : mFld 0 ix_kind (mV 4) (E (.obj 0 [.str n, .tup (sl cs), .tup (sl (sSort us))])) = .nx (E (tbl n cs us k)) := rfl
  have z : b_Table___init__ (E (.obj 0 [])) = .nx (E (tbl n cs us k)) := by
    unfold b_Table___init__
    rw [ev_seq (ev_ifN t1), ev_seq (ev_ifN t2), ev_seq (ev_ifN ((ev_orF t3).trans t4)), ev_seq (ev_ifN ((ev_orF t5).trans t6)), ev_seq s5, ev_seq s6, ev_seq s7, s8]
  show (match b_Table___init__ (E (.obj 0 [])) with
    | .nx e => RC.ok .non false (finE true e)
    | .rt d o e => .ok d o (finE true e)
    | .exc c fs e => .exc c fs (finE true e)
    | _ => .bad) = _
  rw [z]
  rfl
end K39

set_option Elab.async false
set_option linter.all false
set_option maxRecDepth 100000
set_option maxHeartbeats 1000000
/-! K39M4: one column's draw of a pair (the inner loop of _law_plain). -/
namespace K39
open PySem DL
/-- the columns seen, by number -/
def seenD (kvs : List (Int × List Str)) : D := .dct (kvs.map fun p => (Sum.inl p.1, .lst (sl p.2)))
def SeenOk (n : Nat) (U : List Str) (d : D) : Prop := ∃ kvs, d = seenD kvs ∧ kvs.length ≤ n ∧ ∀ p ∈ kvs, p.2.length ≤ n ∧ ∀ s ∈ p.2, s ∈ U
theorem SeenOk.mono {n : Nat} {U U' : List Str} {d : D} (h : SeenOk n U d) (hu : ∀ s ∈ U, s ∈ U') : SeenOk n U' d := by
  obtain ⟨k, h1, h2, h3⟩ := h
  exact ⟨k, h1, h2, fun p hp => ⟨(h3 p hp).1, fun s hs => hu s ((h3 p hp).2 s hs)⟩⟩
theorem SeenOk.get {n : Nat} {U : List Str} {d : D} (h : SeenOk n U d) (r : Int) : ∃ ls, getP d (.int r) (.lst []) = some (.lst (sl ls), false) ∧ ls.length ≤ n ∧ ∀ s ∈ ls, s ∈ U := by
  obtain ⟨kvs, rfl, -, h3⟩ := h
  have key : ∀ kvs : List (Int × List Str), (∀ p ∈ kvs, p.2.length ≤ n ∧ ∀ s ∈ p.2, s ∈ U) → ∃ ls, (lookD (kvs.map fun p => ((Sum.inl p.1, .lst (sl p.2)) : L2.Key × D)) (Sum.inl r)).getD (.lst []) = .lst (sl ls) ∧ ls.length ≤ n ∧ ∀ s ∈ ls, s ∈ U := by
    intro kvs
    induction kvs with
    | nil => exact fun _ => ⟨[], rfl, by simp, by simp⟩
    | cons p q ih =>
      intro h
      by_cases e : p.1 = r
      · refine ⟨p.2, ?_, h p List.mem_cons_self⟩
        simp [lookD, e]
      · obtain ⟨ls, h1, h2⟩ := ih fun x hx => h x (List.mem_cons_of_mem _ hx)
        refine ⟨ls, ?_, h2⟩
        rw [← h1]
        simp [lookD, e]
  obtain ⟨ls, h1, h2⟩ := key kvs h3
  exact ⟨ls, by rw [← h1]; rfl, h2⟩
theorem SeenOk.put {n : Nat} {U : List Str} {d : D} (h : SeenOk n U d) (hn : n < 1000) (r : Int) {ls : List Str} (h1 : ls.length ≤ n + 1) (h2 : ∀ s ∈ ls, s ∈ U) : ∃ d', setP (.int r) (.lst (sl ls)) d = some d' ∧ SeenOk (n + 1) U d' := by
  obtain ⟨kvs, rfl, h0, h3⟩ := h
  let kvs' : List (Int × List Str) := if (kvs.any fun p => decide (p.1 = r)) = true then kvs.map (fun p => if p.1 = r then (p.1, ls) else p) else kvs ++ [(r, ls)]
  have key : putD (kvs.map fun (p : Int × List Str) => ((Sum.inl p.1, .lst (sl p.2)) : L2.Key × D)) (Sum.inl r) (.lst (sl ls)) = kvs'.map fun (p : Int × List Str) => ((Sum.inl p.1, .lst (sl p.2)) : L2.Key × D) := by
    have ha : ((kvs.map fun p => ((Sum.inl p.1, .lst (sl p.2)) : L2.Key × D)).any fun kv => decide (kv.1 = Sum.inl r)) = (kvs.any fun p => decide (p.1 = r)) := by
      rw [List.any_map]
      refine List.any_congr rfl fun p => ?_
      simp
    unfold putD
    rw [ha]
    simp only [kvs']
    split
    · rw [List.map_map, List.map_map]
      refine List.map_congr_left fun p _ => ?_
      by_cases e : p.1 = r
      · simp [e]
      · simp [e]
    · simp
  refine ⟨seenD kvs', ?_, kvs', rfl, ?_, ?_⟩
  · show (match decide ((kvs.map fun p => ((Sum.inl p.1, .lst (sl p.2)) : L2.Key × D)).length < sizeLine) with | true => some (D.dct (putD (kvs.map fun (p : Int × List Str) => ((Sum.inl p.1, .lst (sl p.2)) : L2.Key × D)) (Sum.inl r) (.lst (sl ls)))) | false => none) = _
    rw [decide_eq_true (by rw [List.length_map, sizeLine_eq]; omega), key]
    rfl
  · simp only [kvs']
    split
    · rw [List.length_map]; omega
    · rw [List.length_append]; simp; omega
  · simp only [kvs']
    split
    · intro p hp
      obtain ⟨q, hq, rfl⟩ := List.mem_map.mp hp
      by_cases e : q.1 = r
      · rw [if_pos e]; exact ⟨h1, h2⟩
      · rw [if_neg e]; exact ⟨by have := (h3 q hq).1; omega, (h3 q hq).2⟩
    · intro p hp
      rcases List.mem_append.mp hp with hp | hp
      · exact ⟨by have := (h3 p hp).1; omega, (h3 p hp).2⟩
      · obtain rfl := List.mem_singleton.mp hp
        exact ⟨h1, h2⟩
def prD (p : Str × Str) : D := .tup [.str p.1, .str p.2]
/-- the slots of _law_plain -/
def plE (pen : D) (most wide many : Int) (names cols : List Str) (cl : Int) (tabs : List D) (seen : D) (prs : List D) (at' own spot uniq col oth : Sl) : EV :=
  [some (pen, .p), some (.int most, .s), some (.int wide, .s), some (.int many, .s), some (.lst (sl names), .o), some (.lst (sl cols), .o), some (.int cl, .s), some (.lst tabs, .o), some (seen, .o), some (.lst prs, .o), at', own, spot, uniq, col, oth, none]
abbrev plI : MS := mSeq (mSet 12 (mCallIO c__law_draw 0 [mV 6] []))
    (mSeq (mSet 15 (mLc (.nm 16) [16] (itSq (mGet (.pl 8) (.pl 12) (mLst []))) (mT (mO2 (inP true) (.pl 16) (.pl 11))) (mV 16)))
    (mSeq (mIfS (mAndT (mT (mO2 neP (.pl 15) (.ex (mLst [])))) (mT (mO2 (cmpP fun i j => decide (j < i)) (.ex (mCallIO c__law_draw 0 [mC (.int 6)] [])) (.ex (mC (.int 0)))))) (mExpr (mMt 9 appendP [mCallIO c__law_pick 0 [mLst [mTup [mV 14, mO2 ixP (.pl 15) (.ex (mO1 negP (.ex (mC (.int 1)))))], mTup [mO2 ixP (.pl 15) (.ex (mC (.int 0))), mV 14]]] []])) (mNext))
    (mSub 8 (mV 12) (mO2 addP (.ex (mGet (.pl 8) (.pl 12) (mLst []))) (.ex (mLst [mV 14]))))))
theorem addP_lst {xs ys : List D} (h : xs.length + ys.length ≤ 100000) : addP (.lst xs) (.lst ys) = some (.lst (xs ++ ys), true) := by
  show (match decide (xs.length + ys.length ≤ sizeLine) with | true => some (D.lst (xs ++ ys), true) | false => none) = _
  rw [decide_eq_true (by rw [sizeLine_eq]; omega)]
theorem appendP_lst {xs : List D} {y : D} (h : xs.length ≤ 100000) : appendP (.lst xs) [y] = some (.lst (xs ++ [y]), .non) := by
  show (match decide (xs.length < sizeLine) with | true => some (D.lst (xs ++ [y]), D.non) | false => none) = _
  rw [decide_eq_true (by rw [sizeLine_eq]; omega)]
theorem slen (ss : List Str) : (sl ss).length = ss.length := by simp [sl]
section
variable {most wide many : Int} {names cols : List Str} {cl : Int} {tabs : List D} {at' uniq : Sl} {own : List Str}
/-- what a new pair is: a column of this table, one seen before -/
def NewP (own U : List Str) (p : Str × Str) : Prop := (p.1 ∈ own ∧ p.2 ∈ U ∧ p.2 ∉ own) ∨ (p.2 ∈ own ∧ p.1 ∈ U ∧ p.1 ∉ own)
theorem pair_step {T n : Nat} {pen seen : D} {prs : List (Str × Str)} {U : List Str} {c : Str} {z12 z15 : Sl} (f12 : freeE [z12] 0 = true) (f15 : freeE [z15] 0 = true) (hp : PenOk T pen) (hT : T + 3 ≤ 1000000) (c0 : 0 < cl) (c1 : cl < 1000) (hs : SeenOk n U seen) (hn : n < 1000) (hq : prs.length ≤ n) (hc : c ∈ own) (hU : ∀ s ∈ own, s ∈ U) :
    ∃ pen' seen' new z12' z15', plI (plE pen most wide many names cols cl tabs seen (prs.map prD) at' (some (.lst (sl own), .s)) z12 uniq (some (.str c, .s)) z15) = .nx (plE pen' most wide many names cols cl tabs seen' ((prs ++ new).map prD) at' (some (.lst (sl own), .s)) z12' uniq (some (.str c, .s)) z15')
      ∧ freeE [z12'] 0 = true ∧ freeE [z15'] 0 = true ∧ PenOk (T + 3) pen' ∧ SeenOk (n + 1) U seen' ∧ new.length ≤ 1 ∧ ∀ p ∈ new, NewP own U p := by
  let E (pen seen : D) (prs : List D) (s o : Sl) : EV := plE pen most wide many names cols cl tabs seen prs at' (some (.lst (sl own), .s)) s uniq (some (.str c, .s)) o
  obtain ⟨r, pen1, e1, r0, r1, hp1⟩ := draw_ok hp (by omega) c0 (by omega)
  let Z : Sl := some (.int r, .s)
  have s1 : mSet 12 (mCallIO c__law_draw 0 [mV 6] []) (E pen seen (prs.map prD) z12 z15) = .nx (E pen1 seen (prs.map prD) Z z15) := by
    refine ev_set (o := false) (ev_callIO (t := .p) (dds := []) (x := pen) rfl (ev_cons (ev_vs rfl) ev_nil) rfl (by decide) e1) ?_
    exact f12
  obtain ⟨ls, hg, l1, l2⟩ := hs.get r
  obtain ⟨kvs, rfl, -, -⟩ := id hs
  have hget : ∀ pen prs o, mGet (.pl 8) (.pl 12) (mLst []) (E pen (seenD kvs) prs Z o) = .ok (.lst (sl ls)) false (E pen (seenD kvs) prs Z o) := fun pen prs o =>
    ev_get (t := .o) (t' := .s) (z := .lst []) (o := true) rfl rfl rfl hg
  let os := ls.filter fun s => !decide (s ∈ own)
  let pr : D → Bool := fun d => match d with | .str s => !decide (s ∈ own) | _ => false
  have hlc : mLc (.nm 16) [16] (itSq (mGet (.pl 8) (.pl 12) (mLst []))) (mT (mO2 (inP true) (.pl 16) (.pl 11))) (mV 16) (E pen1 (seenD kvs) (prs.map prD) Z z15) = .ok (.lst (sl os)) true (E pen1 (seenD kvs) (prs.map prD) Z z15) := by
    have hi : itSq (mGet (.pl 8) (.pl 12) (mLst [])) (E pen1 (seenD kvs) (prs.map prD) Z z15) = .ok (sl ls) (E pen1 (seenD kvs) (prs.map prD) Z z15) := by
      unfold itSq bindI
      rw [hget]
      rfl
    have hl := lc_filter (env := E pen1 (seenD kvs) (prs.map prD) Z z15) (i := 16) (tt := mT (mO2 (inP true) (.pl 16) (.pl 11))) (me := mV 16) (f := id) (p := pr) (by simp [E, plE]) (sl ls) [] none (fun d hd => by
      obtain ⟨s, -, rfl⟩ := List.mem_map.mp hd
      refine ev_T (o := false) (ev_pp (t := .s) (t' := .s) (x := .str s) (y := .lst (sl own)) rfl rfl ?_)
      rw [in_seq (Or.inl rfl)]
      simp [pr]) (fun d hd _ => ⟨false, rfl⟩)
    have ef : (sl ls).filter pr = sl os := by
      unfold sl
      rw [List.filter_map]
      rfl
    rw [ef, List.map_id, List.nil_append] at hl
    exact ev_lc hi hl (by decide)
  let O : Sl := some (.lst (sl os), .o)
  have s2 : mSet 15 (mLc (.nm 16) [16] (itSq (mGet (.pl 8) (.pl 12) (mLst []))) (mT (mO2 (inP true) (.pl 16) (.pl 11))) (mV 16)) (E pen1 (seenD kvs) (prs.map prD) Z z15) = .nx (E pen1 (seenD kvs) (prs.map prD) Z O) :=
    ev_set (o := true) hlc f15
  have hos : ∀ s ∈ os, s ∈ U ∧ s ∉ own := fun s h => by
    obtain ⟨h1, h2⟩ := List.mem_filter.mp h
    exact ⟨l2 s h1, by simpa using h2⟩
  obtain ⟨seen', hset, hseen⟩ := hs.put hn r (ls := ls ++ [c]) (by rw [List.length_append]; simp; omega) (fun s h => by
    rcases List.mem_append.mp h with h | h
    · exact l2 s h
    · obtain rfl := List.mem_singleton.mp h
      exact hU s hc)
  have s4 : ∀ pen prs o, mSub 8 (mV 12) (mO2 addP (.ex (mGet (.pl 8) (.pl 12) (mLst []))) (.ex (mLst [mV 14]))) (E pen (seenD kvs) prs Z o) = .nx (E pen seen' prs Z o) := fun pen prs o => by
    have ha : addP (.lst (sl ls)) (.lst [.str c]) = some (.lst (sl (ls ++ [c])), true) := by
      rw [addP_lst (by rw [slen]; simp; omega)]
      simp [sl]
    exact ev_sub (i := 8) (t := .o) (e1 := E pen (seenD kvs) prs Z o) (e2 := E pen (seenD kvs) prs Z o) (x := seenD kvs) (ev_xx (hget pen prs o) (o2 := true) (y := .lst [.str c]) rfl ha) rfl (o2 := false) rfl rfl (by decide) hset
  have t3 : mT (mO2 neP (.pl 15) (.ex (mLst []))) (E pen1 (seenD kvs) (prs.map prD) Z O) = .ok (!decide (os = [])) (E pen1 (seenD kvs) (prs.map prD) Z O) :=
    ev_T (ev_px (t := .o) rfl rfl rfl (neP_nilS os))
  by_cases ho : os = []
  · rw [decide_eq_true ho] at t3
    refine ⟨pen1, seen', [], Z, O, ?_, rfl, rfl, hp1.mono (by omega), hseen, by simp, by simp⟩
    rw [List.append_nil]
    exact (ev_seq s1).trans ((ev_seq s2).trans ((ev_seq (ev_ifN (ev_andF t3))).trans (s4 pen1 _ O)))
  · rw [decide_eq_false ho] at t3
    obtain ⟨r2, pen2, e2, -, -, hp2⟩ := draw_ok (m := 6) hp1 (by omega) (by decide) (by decide)
    have t4 : mT (mO2 (cmpP fun i j => decide (j < i)) (.ex (mCallIO c__law_draw 0 [mC (.int 6)] [])) (.ex (mC (.int 0)))) (E pen1 (seenD kvs) (prs.map prD) Z O) = .ok (decide (0 < r2)) (E pen2 (seenD kvs) (prs.map prD) Z O) :=
      ev_T (o := false) (ev_xx (ev_callIO (t := .p) (dds := []) (x := pen1) rfl (ev_cons (o := false) rfl ev_nil) rfl (by decide) e2) (o2 := false) rfl rfl)
    by_cases h2 : 0 < r2
    · rw [decide_eq_true h2] at t4
      have hlen : 0 < os.length := List.length_pos_iff.mpr ho
      let a := os.getLast ho
      let b := os.head ho
      have ha : a ∈ os := List.getLast_mem ho
      have hb : b ∈ os := List.head_mem ho
      have ia : ixP (.lst (sl os)) (.int (-1)) = some (.str a, false) := by
        show (L2.atI (sl os) (-1)).map (fun d => (d, false)) = _
        have : sl os = sl os.dropLast ++ [.str a] := by
          conv => lhs; rw [← List.dropLast_concat_getLast ho]
          simp [sl, a]
        rw [this, L2.atI_last]
        rfl
      have ib : ixP (.lst (sl os)) (.int 0) = some (.str b, false) := by
        refine ixP_l (by decide) ?_
        show (sl os)[0]? = some (.str b)
        unfold sl
        rw [List.getElem?_map, ← List.head?_eq_getElem?, List.head?_eq_some_head ho]
        rfl
      obtain ⟨x, pen3, e3, hx, hp3⟩ := pick_ok (xs := [.tup [.str c, .str a], .tup [.str b, .str c]]) hp2 (by omega) (by simp) (by simp)
      have hx' : ∃ p, x = prD p ∧ NewP own U p := by
        simp only [List.mem_cons, List.not_mem_nil, or_false] at hx
        rcases hx with rfl | rfl
        · exact ⟨(c, a), rfl, .inl ⟨hc, hos a ha⟩⟩
        · exact ⟨(b, c), rfl, .inr ⟨hc, hos b hb⟩⟩
      obtain ⟨p, rfl, hp'⟩ := hx'
      have em : mLst [mTup [mV 14, mO2 ixP (.pl 15) (.ex (mO1 negP (.ex (mC (.int 1)))))], mTup [mO2 ixP (.pl 15) (.ex (mC (.int 0))), mV 14]] (E pen2 (seenD kvs) (prs.map prD) Z O) = .ok (.lst [.tup [.str c, .str a], .tup [.str b, .str c]]) true (E pen2 (seenD kvs) (prs.map prD) Z O) :=
        ev_lst (ev_cons (o := false) (ev_tup (ev_cons (o := false) (ev_vs rfl) (ev_cons (o := false) (ev_px (t := .o) (t' := .o) (x0 := .lst (sl os)) (o2 := false) (y := .int (-1)) rfl rfl rfl ia) ev_nil))) (ev_cons (o := false) (ev_tup (ev_cons (o := false) (ev_px (t := .o) (t' := .o) (x0 := .lst (sl os)) (o2 := false) (y := .int 0) rfl rfl rfl ib) (ev_cons (o := false) (ev_vs rfl) ev_nil))) ev_nil))
      have s3 : mExpr (mMt 9 appendP [mCallIO c__law_pick 0 [mLst [mTup [mV 14, mO2 ixP (.pl 15) (.ex (mO1 negP (.ex (mC (.int 1)))))], mTup [mO2 ixP (.pl 15) (.ex (mC (.int 0))), mV 14]]] []]) (E pen2 (seenD kvs) (prs.map prD) Z O) = .nx (E pen3 (seenD kvs) ((prs ++ [p]).map prD) Z O) := by
        refine ev_expr (d := .non) (o := false) ?_
        refine (ev_mt (t := .o) (t0 := .o) (xs := prs.map prD) (d := .lst (prs.map prD)) (x := .non) (d' := .lst ((prs ++ [p]).map prD)) rfl (by decide) (ev_cons (ev_callIO (t := .p) (dds := []) (x := pen2) rfl (ev_cons em ev_nil) rfl (by decide) e3) ev_nil) rfl (by decide) ?_)
        rw [appendP_lst (by rw [List.length_map]; omega), List.map_append]
        rfl
      refine ⟨pen3, seen', [p], Z, O, ?_, rfl, rfl, hp3.mono (by omega), hseen, by simp, fun q h => by obtain rfl := List.mem_singleton.mp h; exact hp'⟩
      exact (ev_seq s1).trans ((ev_seq s2).trans ((ev_seq ((ev_ifT ((ev_andT t3).trans t4)).trans s3)).trans (s4 pen3 _ O)))
    · rw [decide_eq_false h2] at t4
      refine ⟨pen2, seen', [], Z, O, ?_, rfl, rfl, hp2.mono (by omega), hseen, by simp, by simp⟩
      rw [List.append_nil]
      exact (ev_seq s1).trans ((ev_seq s2).trans ((ev_seq (ev_ifN ((ev_andT t3).trans t4))).trans (s4 pen2 _ O)))
end
end K39

set_option Elab.async false
set_option linter.all false
set_option maxRecDepth 100000
set_option maxHeartbeats 1000000
/-! K39M5: the plain tables and pairs drawn. -/
namespace K39
open PySem DL
theorem plE_tg {most wide many : Int} {names cols : List Str} {cl : Int} {tabs : List D} {pen seen : D} {prs : List D} {a b c d e f : Sl} {x : D} (h : freeE [e] 0 = true) : setTg (.nm 14) x (plE pen most wide many names cols cl tabs seen prs a b c d e f) = some (plE pen most wide many names cols cl tabs seen prs a b c d (some (x, .s)) f) := by
  unfold setTg
  rw [show freeE (plE pen most wide many names cols cl tabs seen prs a b c d e f) 14 = true from h]
  rfl
section
variable {most wide many : Int} {names cols : List Str} {cl : Int} {tabs : List D} {at' uniq : Sl} {own : List Str}
theorem pair_loop {U : List Str} (c0 : 0 < cl) (c1 : cl < 1000) (hU : ∀ s ∈ own, s ∈ U) : ∀ (rest : List Str) {T n : Nat} {pen seen : D} {prs : List (Str × Str)} {z12 z14 z15 : Sl}, (∀ c ∈ rest, c ∈ own) → freeE [z12] 0 = true → freeE [z14] 0 = true → freeE [z15] 0 = true → PenOk T pen → T + 3 * rest.length ≤ 1000000 → SeenOk n U seen → n + rest.length < 1000 → prs.length ≤ n →
    ∃ pen' seen' new z12' z14' z15', forE (.nm 14) plI (sl rest) (plE pen most wide many names cols cl tabs seen (prs.map prD) at' (some (.lst (sl own), .s)) z12 uniq z14 z15) = .nx (plE pen' most wide many names cols cl tabs seen' ((prs ++ new).map prD) at' (some (.lst (sl own), .s)) z12' uniq z14' z15')
      ∧ freeE [z12'] 0 = true ∧ freeE [z14'] 0 = true ∧ freeE [z15'] 0 = true ∧ PenOk (T + 3 * rest.length) pen' ∧ SeenOk (n + rest.length) U seen' ∧ new.length ≤ rest.length ∧ ∀ p ∈ new, NewP own U p
  | [], T, n, pen, seen, prs, z12, z14, z15, _, f12, f14, f15, hp, _, hs, _, _ => ⟨pen, seen, [], z12, z14, z15, by rw [List.append_nil]; rfl, f12, f14, f15, hp, hs, by simp, by simp⟩
  | c :: rest, T, n, pen, seen, prs, z12, z14, z15, hr, f12, f14, f15, hp, hT, hs, hn, hq => by
    rw [List.length_cons] at hT hn
    obtain ⟨pen1, seen1, new1, y12, y15, e1, g12, g15, hp1, hs1, hl1, hnew1⟩ := pair_step (most := most) (wide := wide) (many := many) (names := names) (cols := cols) (tabs := tabs) (at' := at') (uniq := uniq) f12 f15 hp (by omega) c0 c1 hs (by omega) hq (hr c List.mem_cons_self) hU
    obtain ⟨pen2, seen2, new2, w12, w14, w15, e2, k12, k14, k15, hp2, hs2, hl2, hnew2⟩ := pair_loop c0 c1 hU rest (T := T + 3) (n := n + 1) (pen := pen1) (seen := seen1) (prs := prs ++ new1) (z14 := some (.str c, .s)) (fun x h => hr x (List.mem_cons_of_mem _ h)) g12 rfl g15 hp1 (by omega) hs1 (by omega) (by rw [List.length_append]; omega)
    refine ⟨pen2, seen2, new1 ++ new2, w12, w14, w15, ?_, k12, k14, k15, hp2.mono (by rw [List.length_cons]; omega), ?_, by rw [List.length_append, List.length_cons]; omega, fun p h => ?_⟩
    · show (match setTg (.nm 14) (.str c) (plE pen most wide many names cols cl tabs seen (prs.map prD) at' (some (.lst (sl own), .s)) z12 uniq z14 z15) with
        | none => RS.bad
        | some e => match plI e with
          | .nx e' => forE (.nm 14) plI (sl rest) e'
          | .ct e' => forE (.nm 14) plI (sl rest) e'
          | .bk e' => .nx e'
          | .rt d o e' => .rt d o e'
          | .exc c fs e' => .exc c fs e'
          | .bad => .bad) = _
      rw [plE_tg f14]
      show (match plI (plE pen most wide many names cols cl tabs seen (prs.map prD) at' (some (.lst (sl own), .s)) z12 uniq (some (.str c, .s)) z15) with
          | .nx e' => forE (.nm 14) plI (sl rest) e'
          | .ct e' => forE (.nm 14) plI (sl rest) e'
          | .bk e' => .nx e'
          | .rt d o e' => .rt d o e'
          | .exc c fs e' => .exc c fs e'
          | .bad => .bad) = _
      rw [e1]
      show forE (.nm 14) plI (sl rest) _ = _
      rw [e2, List.append_assoc]
    · rw [List.length_cons, show n + (rest.length + 1) = n + 1 + rest.length by omega]; exact hs2
    · rcases List.mem_append.mp h with h | h
      · exact hnew1 p h
      · exact hnew2 p h
theorem popP_rev {x : Str} {rc : List Str} : popP (.lst (sl (x :: rc).reverse)) [] = some (.lst (sl rc.reverse), .str x) := by
  have e : sl (x :: rc).reverse = sl rc.reverse ++ [.str x] := by simp [sl]
  show ((sl (x :: rc).reverse)[(sl (x :: rc).reverse).length - 1]?).map (fun y => (D.lst (sl (x :: rc).reverse).dropLast, y)) = _
  rw [e]
  simp
theorem col_loop {pen seen : D} {prs : List D} {a b d e f : Sl} : ∀ (ds : List D) (rc acc : List Str) (z : Sl), freeE [z] 0 = true → ds.length ≤ rc.length →
    lcE (.nm 12) [12] mYes (mMt 5 popP []) ds (sl acc) (plE pen most wide many names rc.reverse cl tabs seen prs a b z d e f) = .ok (.lst (sl (acc ++ rc.take ds.length))) true (plE pen most wide many names (rc.drop ds.length).reverse cl tabs seen prs a b none d e f)
  | [], rc, acc, z, _, _ => by
    rw [List.length_nil, List.take_zero, List.drop_zero, List.append_nil]; rfl
  | x :: ds, [], acc, z, _, h => by simp at h
  | x :: ds, y :: rc, acc, z, hz, h => by
    have hm : mMt 5 popP [] (plE pen most wide many names (y :: rc).reverse cl tabs seen prs a b (some (x, .s)) d e f) = .ok (.str y) false (plE pen most wide many names rc.reverse cl tabs seen prs a b (some (x, .s)) d e f) :=
      ev_mt (t := .o) (t0 := .o) (xs := sl (y :: rc).reverse) (d := .lst (sl (y :: rc).reverse)) (d' := .lst (sl rc.reverse)) rfl (by decide) ev_nil rfl (by decide) popP_rev
    have st : lcE (.nm 12) [12] mYes (mMt 5 popP []) (x :: ds) (sl acc) (plE pen most wide many names (y :: rc).reverse cl tabs seen prs a b z d e f) = (match mMt 5 popP [] (plE pen most wide many names (y :: rc).reverse cl tabs seen prs a b (some (x, .s)) d e f) with
      | .ok d' _ e2 => lcE (.nm 12) [12] mYes (mMt 5 popP []) ds (sl acc ++ [d']) e2
      | _ => .bad) := rfl
    rw [st, hm]
    show lcE _ _ _ _ ds (sl acc ++ [D.str y]) _ = _
    rw [show sl acc ++ [D.str y] = sl (acc ++ [y]) by simp [sl], col_loop ds rc (acc ++ [y]) _ rfl (by simpa using h), List.length_cons, List.take_succ_cons, List.drop_succ_cons, List.append_assoc]
    rfl
abbrev unT : MT := mT (mO2 eqP (.ex (mCallIO c__law_draw 0 [mC (.int 3)] [])) (.ex (mC (.int 0))))
theorem un_loop {seen : D} {prs : List D} {a b c d f : Sl} : ∀ (ss acc : List Str) (T : Nat) (pen : D) (z : Sl), freeE [z] 0 = true → PenOk T pen → T + ss.length ≤ 1000000 →
    ∃ us pen', lcE (.nm 14) [14] unT (mV 14) (sl ss) (sl acc) (plE pen most wide many names cols cl tabs seen prs a b c d z f) = .ok (.lst (sl (acc ++ us))) true (plE pen' most wide many names cols cl tabs seen prs a b c d none f) ∧ us.Sublist ss ∧ PenOk (T + ss.length) pen'
  | [], acc, T, pen, z, _, hp, _ => ⟨[], pen, by rw [List.append_nil]; rfl, List.Sublist.refl _, hp⟩
  | s :: ss, acc, T, pen, z, hz, hp, hT => by
    rw [List.length_cons] at hT
    obtain ⟨r, pen1, e1, -, -, hp1⟩ := draw_ok (m := 3) hp (by omega) (by decide) (by decide)
    have ht : unT (plE pen most wide many names cols cl tabs seen prs a b c d (some (.str s, .s)) f) = .ok (eqD (.int r) (.int 0)) (plE pen1 most wide many names cols cl tabs seen prs a b c d (some (.str s, .s)) f) :=
      ev_T (o := false) (ev_xx (ev_callIO (t := .p) (dds := []) (x := pen) rfl (ev_cons (o := false) rfl ev_nil) rfl (by decide) e1) (o2 := false) rfl rfl)
    have st : lcE (.nm 14) [14] unT (mV 14) (sl (s :: ss)) (sl acc) (plE pen most wide many names cols cl tabs seen prs a b c d z f) = (match unT (plE pen most wide many names cols cl tabs seen prs a b c d (some (.str s, .s)) f) with
      | .ok true e1 => (match mV 14 e1 with
        | .ok d' _ e2 => lcE (.nm 14) [14] unT (mV 14) (sl ss) (sl acc ++ [d']) e2
        | _ => .bad)
      | .ok false e1 => lcE (.nm 14) [14] unT (mV 14) (sl ss) (sl acc) e1
      | _ => .bad) := rfl
    rw [st, ht]
    cases eqD (.int r) (.int 0) with
    | true =>
      obtain ⟨us, pen2, e2, hs, hp2⟩ := un_loop (seen := seen) (prs := prs) (a := a) (b := b) (c := c) (d := d) (f := f) ss (acc ++ [s]) (T + 1) pen1 (some (.str s, .s)) rfl hp1 (by omega)
      refine ⟨s :: us, pen2, ?_, hs.cons₂ s, hp2.mono (by rw [List.length_cons]; omega)⟩
      show lcE _ _ _ _ (sl ss) (sl acc ++ [D.str s]) _ = _
      rw [show sl acc ++ [D.str s] = sl (acc ++ [s]) by simp [sl], e2, List.append_assoc]
      rfl
    | false =>
      obtain ⟨us, pen2, e2, hs, hp2⟩ := un_loop (seen := seen) (prs := prs) (a := a) (b := b) (c := c) (d := d) (f := f) ss acc (T + 1) pen1 (some (.str s, .s)) rfl hp1 (by omega)
      refine ⟨us, pen2, ?_, hs.cons s, hp2.mono (by rw [List.length_cons]; omega)⟩
      show lcE _ _ _ _ (sl ss) (sl acc) _ = _
      rw [e2]
end
structure Tb where
  name : Str
  own : List Str
  un : List Str
  kind : Str
def tbT (t : Tb) : D := .tup [.str t.name, .lst (sl t.own), .lst (sl t.un), .str t.kind]
structure TbOk (t : Tb) : Prop where
  nm : WordOk t.name
  cols : ColsOk t.own
  keys : KeysOk t.un t.own
  kind : KindOk t.kind
def PairOk (tl : List Tb) (p : Str × Str) : Prop := ∃ t ∈ tl, ∃ u ∈ tl, t ≠ u ∧ p.1 ∈ t.own ∧ p.2 ∈ u.own
abbrev colsOf (tl : List Tb) : List Str := tl.flatMap (·.own)
abbrev plB : MS := mSeq (mSet 11 (mLc (.nm 12) [12] (mRg1 (mO2 addP (.ex (mC (.int 1))) (.ex (mCallIO c__law_draw 0 [mV 2] [])))) (mYes) (mMt 5 popP [])))
    (mSeq (mSet 13 (mLc (.nm 14) [14] (itSq (mV 11)) unT (mV 14)))
    (mSeq (mExpr (mMt 7 appendP [mTup [mO2 ixP (.pl 4) (.pl 10), mV 11, mV 13, mCallIO c__law_pick 0 [mLst [mC (.str "heap"), mC (.str "set"), mC (.str "set")]] []]]))
    (mFor (.nm 14) (itSq (mV 11)) plI)))
/-- what is drawn so far -/
structure PlInv (names rc0 : List Str) (k n wide : Nat) (tl : List Tb) (rc : List Str) (seen : D) (prs : List (Str × Str)) : Prop where
  nm : tl.map (·.name) = names.take k
  col : colsOf tl ++ rc = rc0
  len : (colsOf tl).length = n
  wid : n ≤ k * wide
  ok : ∀ t ∈ tl, TbOk t
  seen : SeenOk n (colsOf tl) seen
  pr : ∀ p ∈ prs, PairOk tl p
  prl : prs.length ≤ n
section
variable {most wide many : Int} {names cols : List Str} {cl : Int}
theorem plain_step {rc0 : List Str} {T k n w : Nat} {pen seen : D} {tl : List Tb} {rc : List Str} {prs : List (Str × Str)} {z11 z12 z13 z14 z15 : Sl} (f11 : freeE [z11] 0 = true) (f12 : freeE [z12] 0 = true) (f13 : freeE [z13] 0 = true) (f14 : freeE [z14] 0 = true) (f15 : freeE [z15] 0 = true)
    (hp : PenOk T pen) (hT : T + 40 ≤ 1000000) (c0 : 0 < cl) (c1 : cl < 1000) (w0 : 1 ≤ w) (w1 : w ≤ 5) (I : PlInv names rc0 k n w tl rc seen prs) (hk : k < names.length) (hk2 : names.length ≤ 100) (hw : ∀ s ∈ names, WordOk s) (hc : ∀ s ∈ rc0, NameOk s) (hnd : rc0.Nodup) (hl : (k + 1) * w ≤ rc0.length) (hl2 : rc0.length ≤ 100) :
    ∃ pen' seen' t rc' prs' n' y11 y12 y13 y14 y15, plB (plE pen most w many names rc.reverse cl (tl.map tbT) seen (prs.map prD) (some (.int k, .s)) z11 z12 z13 z14 z15) = .nx (plE pen' most w many names rc'.reverse cl ((tl ++ [t]).map tbT) seen' (prs'.map prD) (some (.int k, .s)) y11 y12 y13 y14 y15)
      ∧ freeE [y11] 0 = true ∧ freeE [y12] 0 = true ∧ freeE [y13] 0 = true ∧ freeE [y14] 0 = true ∧ freeE [y15] 0 = true ∧ PenOk (T + 40) pen' ∧ PlInv names rc0 (k + 1) n' w (tl ++ [t]) rc' seen' prs' := by
  have kw : (k + 1) * w = k * w + w := Nat.succ_mul k w
  have hlr : n + rc.length = rc0.length := by rw [← I.col, List.length_append, I.len]
  have hkn : k * w ≤ 100 := by omega
  have hn0 := I.wid
  obtain ⟨r, pen1, e1, r0, r1, hp1⟩ := draw_ok (m := (w : Int)) hp (by omega) (by omega) (by omega)
  let q : Nat := (1 + r).toNat
  have hq : ((q : Nat) : Int) = 1 + r := by simp only [q]; omega
  have q0 : 1 ≤ q := by omega
  have q1 : q ≤ w := by omega
  let own := rc.take q
  let rc' := rc.drop q
  have hown : own.length = q := by simp only [own, List.length_take]; omega
  have hor : own ++ rc' = rc := List.take_append_drop q rc
  let A : Sl := some (.int k, .s)
  let O : Sl := some (.lst (sl own), .o)
  let S : Sl := some (.lst (sl own), .s)
  let tabs := tl.map tbT
  let ps := prs.map prD
  have hlc := col_loop (most := most) (wide := w) (many := many) (names := names) (cl := cl) (tabs := tabs) (pen := pen1) (seen := seen) (prs := ps) (a := A) (b := z11) (d := z13) (e := z14) (f := z15) (rngD 0 (q : Int)) rc [] z12 f12 (by rw [rngD_len]; omega)
  rw [rngD_len, show ((q : Int)).toNat = q by omega, List.nil_append] at hlc
  have rg : mRg1 (mO2 addP (.ex (mC (.int 1))) (.ex (mCallIO c__law_draw 0 [mV 2] []))) (plE pen most w many names rc.reverse cl tabs seen ps A z11 z12 z13 z14 z15) = .ok (rngD 0 (q : Int)) (plE pen1 most w many names rc.reverse cl tabs seen ps A z11 z12 z13 z14 z15) := by
    refine ev_rg (o := false) ?_ (by omega) (by omega)
    rw [hq]
    exact ev_xx (o1 := false) rfl (ev_callIO (t := .p) (dds := []) (x := pen) rfl (ev_cons (ev_vs rfl) ev_nil) rfl (by decide) e1) rfl
  have s1 : mSet 11 (mLc (.nm 12) [12] (mRg1 (mO2 addP (.ex (mC (.int 1))) (.ex (mCallIO c__law_draw 0 [mV 2] [])))) (mYes) (mMt 5 popP [])) (plE pen most w many names rc.reverse cl tabs seen ps A z11 z12 z13 z14 z15) = .nx (plE pen1 most w many names rc'.reverse cl tabs seen ps A O none z13 z14 z15) :=
    ev_set (o := true) (ev_lc rg hlc (by decide)) f11
  obtain ⟨us, pen2, e2, hsub, hp2⟩ := un_loop (most := most) (wide := w) (many := many) (names := names) (cols := rc'.reverse) (cl := cl) (tabs := tabs) (seen := seen) (prs := ps) (a := A) (b := S) (c := none) (d := z13) (f := z15) own [] (T + 1) pen1 z14 f14 hp1 (by omega)
  rw [List.nil_append] at e2
  let V : Sl := some (.lst (sl us), .o)
  let V' : Sl := some (.lst (sl us), .s)
  have s2 : mSet 13 (mLc (.nm 14) [14] (itSq (mV 11)) unT (mV 14)) (plE pen1 most w many names rc'.reverse cl tabs seen ps A O none z13 z14 z15) = .nx (plE pen2 most w many names rc'.reverse cl tabs seen ps A S none V none z15) := by
    refine ev_set (o := true) (ev_lc (e1 := plE pen1 most w many names rc'.reverse cl tabs seen ps A S none z13 z14 z15) rfl e2 (by decide)) f13
  obtain ⟨kd, pen3, e3, hkd, hp3⟩ := pick_ok (xs := [.str "heap", .str "set", .str "set"]) hp2 (by omega) (by simp) (by simp)
  have ⟨kind, hkd', hkk⟩ : ∃ kind : Str, kd = .str kind ∧ KindOk kind := by
    simp only [List.mem_cons, List.not_mem_nil, or_false] at hkd
    rcases hkd with rfl | rfl | rfl
    · exact ⟨_, rfl, .inl rfl⟩
    · exact ⟨_, rfl, .inr rfl⟩
    · exact ⟨_, rfl, .inr rfl⟩
  subst hkd'
  let t : Tb := ⟨names[k], own, us, kind⟩
  have ix4 : ixP (.lst (sl names)) (.int k) = some (.str names[k], false) := by
    refine ixP_l (by omega) ?_
    unfold sl
    rw [List.getElem?_map, show ((k : Int)).toNat = k by omega, List.getElem?_eq_getElem hk]
    rfl
  have et : mTup [mO2 ixP (.pl 4) (.pl 10), mV 11, mV 13, mCallIO c__law_pick 0 [mLst [mC (.str "heap"), mC (.str "set"), mC (.str "set")]] []] (plE pen2 most w many names rc'.reverse cl tabs seen ps A S none V none z15) = .ok (tbT t) false (plE pen3 most w many names rc'.reverse cl tabs seen ps A S none V' none z15) :=
    ev_tup (ev_cons (o := false) (ev_pp (t := .o) (t' := .s) (x := .lst (sl names)) (y := .int k) rfl rfl ix4) (ev_cons (ev_vs rfl) (ev_cons (ev_vo rfl) (ev_cons (ev_callIO (t := .p) (dds := []) (x := pen2) rfl (ev_cons (o := true) rfl ev_nil) rfl (by decide) e3) ev_nil))))
  have htl : tl.length = k := by
    have := congrArg List.length I.nm
    rw [List.length_map, List.length_take] at this
    omega
  have s3 : mExpr (mMt 7 appendP [mTup [mO2 ixP (.pl 4) (.pl 10), mV 11, mV 13, mCallIO c__law_pick 0 [mLst [mC (.str "heap"), mC (.str "set"), mC (.str "set")]] []]]) (plE pen2 most w many names rc'.reverse cl tabs seen ps A S none V none z15) = .nx (plE pen3 most w many names rc'.reverse cl ((tl ++ [t]).map tbT) seen ps A S none V' none z15) := by
    refine ev_expr (d := .non) (o := false) ?_
    refine (ev_mt (t := .o) (t0 := .o) (xs := tabs) (d := .lst tabs) (x := .non) (d' := .lst ((tl ++ [t]).map tbT)) rfl (by decide) (ev_cons et ev_nil) rfl (by decide) ?_)
    rw [appendP_lst (by simp only [tabs, List.length_map]; omega), List.map_append]
    rfl
  have hcols : colsOf (tl ++ [t]) = colsOf tl ++ own := by simp [colsOf, t]
  have hs0 : SeenOk n (colsOf (tl ++ [t])) seen := I.seen.mono fun s h => by rw [hcols]; exact List.mem_append_left _ h
  obtain ⟨pen4, seen4, new, y12, y14, y15, e4, g12, g14, g15, hp4, hs4, hl4, hn4⟩ := pair_loop (most := most) (wide := w) (many := many) (names := names) (cols := rc'.reverse) (tabs := (tl ++ [t]).map tbT) (at' := A) (uniq := V') (own := own) (U := colsOf (tl ++ [t])) c0 c1 (fun s h => by rw [hcols]; exact List.mem_append_right _ h) own (z12 := none) (z14 := none) (z15 := z15) (fun c h => h) rfl rfl f15 hp3 (by omega) hs0 (by omega) I.prl
  have s4 : mFor (.nm 14) (itSq (mV 11)) plI (plE pen3 most w many names rc'.reverse cl ((tl ++ [t]).map tbT) seen ps A S none V' none z15) = .nx (plE pen4 most w many names rc'.reverse cl ((tl ++ [t]).map tbT) seen4 ((prs ++ new).map prD) A S y12 V' y14 y15) := by
    exact (ev_for (ds := sl own) (e := plE pen3 most w many names rc'.reverse cl ((tl ++ [t]).map tbT) seen ps A S none V' none z15) rfl).trans e4
  have hown0 : ∀ s ∈ own, s ∈ rc0 := fun s h => by rw [← I.col]; exact List.mem_append_right _ (List.mem_of_mem_take h)
  have hrn : rc.Nodup := by have := hnd; rw [← I.col] at this; exact (List.nodup_append.mp this).2.1
  have hon : own.Nodup := hrn.sublist (List.take_sublist _ _)
  have hdis : ∀ s ∈ colsOf tl, s ∉ own := fun s h1 h2 => by
    have := hnd
    rw [← I.col] at this
    exact (List.nodup_append.mp this).2.2 s h1 s (List.mem_of_mem_take h2) rfl
  have htk : TbOk t := {
    nm := hw _ (List.getElem_mem hk)
    cols := ⟨hon, fun s h => hc s (hown0 s h), by show 1 ≤ own.length; omega, by show own.length ≤ 5; omega⟩
    keys := ⟨hon.sublist hsub, fun s h => hsub.subset h, by have : us.length ≤ own.length := hsub.length_le; show us.length ≤ 5; omega⟩
    kind := hkk }
  have hne : ∀ u ∈ tl, ∀ s ∈ u.own, s ∉ own := fun u hu s hs => hdis s (List.mem_flatMap.mpr ⟨u, hu, hs⟩)
  refine ⟨pen4, seen4, t, rc', prs ++ new, n + q, S, y12, V', y14, y15, ?_, rfl, g12, rfl, g14, g15, hp4.mono (by omega), ?_⟩
  · exact (ev_seq s1).trans ((ev_seq s2).trans ((ev_seq s3).trans s4))
  · have inU : ∀ s ∈ colsOf (tl ++ [t]), s ∉ own → ∃ u ∈ tl, s ∈ u.own := fun s h1 h2 => by
      rw [hcols] at h1
      rcases List.mem_append.mp h1 with h | h
      · obtain ⟨u, hu, hs⟩ := List.mem_flatMap.mp h
        exact ⟨u, hu, hs⟩
      · exact absurd h h2
    have tne : ∀ u ∈ tl, t ≠ u := fun u hu e => by
      have h1 : own ≠ [] := fun e => by rw [e] at hown; simp at hown; omega
      obtain ⟨s, hs⟩ := List.exists_mem_of_ne_nil own h1
      have : s ∈ u.own := by rw [← e]; exact hs
      exact hne u hu s this hs
    exact {
      nm := by
        rw [List.map_append, I.nm, List.take_succ, List.getElem?_eq_getElem hk]
        rfl
      col := by rw [hcols, List.append_assoc, hor, I.col]
      len := by rw [hcols, List.length_append, I.len, hown]
      wid := by omega
      ok := fun u hu => by
        rcases List.mem_append.mp hu with h | h
        · exact I.ok u h
        · obtain rfl := List.mem_singleton.mp h
          exact htk
      seen := by rw [← hown]; exact hs4
      pr := fun p hp => by
        rcases List.mem_append.mp hp with h | h
        · obtain ⟨a, ha, b, hb, h1, h2, h3⟩ := I.pr p h
          exact ⟨a, List.mem_append_left _ ha, b, List.mem_append_left _ hb, h1, h2, h3⟩
        · rcases hn4 p h with ⟨h1, h2, h3⟩ | ⟨h1, h2, h3⟩
          · obtain ⟨u, hu, hs⟩ := inU _ h2 h3
            exact ⟨t, by simp, u, List.mem_append_left _ hu, tne u hu, h1, hs⟩
          · obtain ⟨u, hu, hs⟩ := inU _ h2 h3
            exact ⟨u, List.mem_append_left _ hu, t, by simp, fun e => tne u hu e.symm, hs, h1⟩
      prl := by rw [List.length_append]; have := I.prl; omega }
theorem plain_loop {rc0 : List Str} {w : Nat} (c0 : 0 < cl) (c1 : cl < 1000) (w0 : 1 ≤ w) (w1 : w ≤ 5) (hk2 : names.length ≤ 100) (hw : ∀ s ∈ names, WordOk s) (hc : ∀ s ∈ rc0, NameOk s) (hnd : rc0.Nodup) (hl : names.length * w ≤ rc0.length) (hl2 : rc0.length ≤ 100) : ∀ (j : Nat) {T k n : Nat} {pen seen : D} {tl : List Tb} {rc : List Str} {prs : List (Str × Str)} {z10 z11 z12 z13 z14 z15 : Sl}, freeE [z10] 0 = true → freeE [z11] 0 = true → freeE [z12] 0 = true → freeE [z13] 0 = true → freeE [z14] 0 = true → freeE [z15] 0 = true → PenOk T pen → T + 40 * j ≤ 1000000 → PlInv names rc0 k n w tl rc seen prs → k + j = names.length →
    ∃ pen' seen' tl' rc' prs' n' y10 y11 y12 y13 y14 y15, forE (.nm 10) plB ((List.range' k j).map fun (i : Nat) => D.int i) (plE pen most w many names rc.reverse cl (tl.map tbT) seen (prs.map prD) z10 z11 z12 z13 z14 z15) = .nx (plE pen' most w many names rc'.reverse cl (tl'.map tbT) seen' (prs'.map prD) y10 y11 y12 y13 y14 y15)
      ∧ PenOk (T + 40 * j) pen' ∧ PlInv names rc0 names.length n' w tl' rc' seen' prs'
  | 0, T, k, n, pen, seen, tl, rc, prs, z10, z11, z12, z13, z14, z15, f10, f11, f12, f13, f14, f15, hp, hT, I, hk => by
    obtain rfl : k = names.length := by omega
    exact ⟨pen, seen, tl, rc, prs, n, z10, z11, z12, z13, z14, z15, rfl, hp, I⟩
  | j + 1, T, k, n, pen, seen, tl, rc, prs, z10, z11, z12, z13, z14, z15, f10, f11, f12, f13, f14, f15, hp, hT, I, hk => by
    have hkl : (k + 1) * w ≤ names.length * w := Nat.mul_le_mul_right w (by omega)
    obtain ⟨pen1, seen1, t, rc1, prs1, n1, y11, y12, y13, y14, y15, e1, g11, g12, g13, g14, g15, hp1, I1⟩ := plain_step (most := most) (many := many) f11 f12 f13 f14 f15 hp (by omega) c0 c1 w0 w1 I (by omega) hk2 hw hc hnd (by omega) hl2
    obtain ⟨pen2, seen2, tl2, rc2, prs2, n2, x10, x11, x12, x13, x14, x15, e2, hp2, I2⟩ := plain_loop c0 c1 w0 w1 hk2 hw hc hnd hl hl2 j (z10 := some (.int k, .s)) rfl g11 g12 g13 g14 g15 hp1 (by omega) I1 (by omega)
    refine ⟨pen2, seen2, tl2, rc2, prs2, n2, x10, x11, x12, x13, x14, x15, ?_, hp2.mono (by omega), I2⟩
    rw [List.range'_succ, List.map_cons]
    show (match setTg (.nm 10) (.int k) (plE pen most w many names rc.reverse cl (tl.map tbT) seen (prs.map prD) z10 z11 z12 z13 z14 z15) with
      | none => RS.bad
      | some e => match plB e with
        | .nx e' => forE (.nm 10) plB ((List.range' (k + 1) j).map fun (i : Nat) => D.int i) e'
        | .ct e' => forE (.nm 10) plB ((List.range' (k + 1) j).map fun (i : Nat) => D.int i) e'
        | .bk e' => .nx e'
        | .rt d o e' => .rt d o e'
        | .exc c fs e' => .exc c fs e'
        | .bad => .bad) = _
    have hs : setTg (.nm 10) (.int k) (plE pen most w many names rc.reverse cl (tl.map tbT) seen (prs.map prD) z10 z11 z12 z13 z14 z15) = some (plE pen most w many names rc.reverse cl (tl.map tbT) seen (prs.map prD) (some (.int k, .s)) z11 z12 z13 z14 z15) := by
      unfold setTg
      rw [show freeE (plE pen most w many names rc.reverse cl (tl.map tbT) seen (prs.map prD) z10 z11 z12 z13 z14 z15) 10 = true from f10]
      rfl
    rw [hs]
    show (match plB (plE pen most w many names rc.reverse cl (tl.map tbT) seen (prs.map prD) (some (.int k, .s)) z11 z12 z13 z14 z15) with
        | .nx e' => forE (.nm 10) plB ((List.range' (k + 1) j).map fun (i : Nat) => D.int i) e'
        | .ct e' => forE (.nm 10) plB ((List.range' (k + 1) j).map fun (i : Nat) => D.int i) e'
        | .bk e' => .nx e'
        | .rt d o e' => .rt d o e'
        | .exc c fs e' => .exc c fs e'
        | .bad => .bad) = _
    rw [e1]
    exact e2
end
structure PlainOk (tl : List Tb) (ps : List (Str × Str)) (most : Nat) : Prop where
  ne : 1 ≤ tl.length
  le : tl.length ≤ most
  nd : (tl.map (·.name)).Nodup
  cols : (colsOf tl).Nodup
  len : (colsOf tl).length ≤ 20
  ok : ∀ t ∈ tl, TbOk t
  pr : ∀ p ∈ ps, PairOk tl p
  prl : ps.length ≤ 20
def plainD (tl : List Tb) (pr : List (Str × Str)) : D := .dct [(Sum.inr "tables", .lst (tl.map tbT)), (Sum.inr "pairs", .lst (pr.map prD))]
theorem plain_ok {T most w : Nat} {pen : D} (h : PenOk T pen) (hT : T + 2000 ≤ 1000000) (m0 : 1 ≤ most) (m1 : most ≤ 20) (w0 : 1 ≤ w) (w1 : w ≤ 5) (mw : most * w ≤ 20) : ∃ tl pr pen', c__law_plain [pen, .int most, .int w] = .ok (plainD tl pr) true (some pen') ∧ PlainOk tl pr most ∧ PenOk (T + 2000) pen' := by
  obtain ⟨r, pen1, e1, r0, r1, hp1⟩ := draw_ok (m := (most : Int)) h (by omega) (by omega) (by omega)
  let q : Nat := (1 + r).toNat
  have hq : ((q : Nat) : Int) = 1 + r := by simp only [q]; omega
  have q0 : 1 ≤ q := by omega
  have q1 : q ≤ most := by omega
  obtain ⟨names, pen2, e2, n1, n2, n3, hp2⟩ := words_ok (m := q) hp1 (by omega) (by omega)
  obtain ⟨cs, pen3, e3, m1', m2, m3, hp3⟩ := words_ok (m := 20) hp2 (by omega) (by omega)
  obtain ⟨c, pen4, e4, c0, c1, hp4⟩ := draw_ok (m := 4) hp3 (by omega) (by decide) (by decide)
  let E0 : EV := startE 17 true [pen, .int most, .int w]
  let M : Sl := some (.int (q : Int), .s)
  have s1 : mSet 3 (mO2 addP (.ex (mC (.int 1))) (.ex (mCallIO c__law_draw 0 [mV 1] []))) E0 = .nx [some (pen1, .p), some (.int most, .s), some (.int w, .s), M, none, none, none, none, none, none, none, none, none, none, none, none, none] := by
    refine ev_set (o := false) (d := .int q) (e := [some (pen1, .p), some (.int most, .s), some (.int w, .s), none, none, none, none, none, none, none, none, none, none, none, none, none, none]) ?_ rfl
    rw [hq]
    exact ev_xx (o1 := false) rfl (ev_callIO (t := .p) (dds := []) (x := pen) rfl (ev_cons (ev_vs rfl) ev_nil) rfl (by decide) e1) rfl
  have s2 : mParL [4, 5, 6] [mCallIO c__law_words 0 [mV 3] [], mCallIO c__law_words 0 [mC (.int 20)] [], mO2 addP (.ex (mC (.int 1))) (.ex (mCallIO c__law_draw 0 [mC (.int 4)] []))] [some (pen1, .p), some (.int most, .s), some (.int w, .s), M, none, none, none, none, none, none, none, none, none, none, none, none, none] = .nx [some (pen4, .p), some (.int most, .s), some (.int w, .s), M, some (.lst (sl names), .o), some (.lst (sl cs), .o), some (.int (1 + c), .s), none, none, none, none, none, none, none, none, none, none] :=
    ev_parL3 (ev_callIO (t := .p) (dds := []) (x := pen1) rfl (ev_cons (ev_vs rfl) ev_nil) rfl (by decide) e2) (ev_callIO (t := .p) (dds := []) (x := pen2) rfl (ev_cons (o := false) rfl ev_nil) rfl (by decide) e3) (ev_xx (o1 := false) (o := false) (d := .int (1 + c)) rfl (ev_callIO (t := .p) (dds := []) (x := pen3) rfl (ev_cons (o := false) rfl ev_nil) rfl (by decide) e4) rfl) rfl
  have s3 : mParL [7, 8, 9] [mLst [], mDct0, mLst []] [some (pen4, .p), some (.int most, .s), some (.int w, .s), M, some (.lst (sl names), .o), some (.lst (sl cs), .o), some (.int (1 + c), .s), none, none, none, none, none, none, none, none, none, none] = .nx (plE pen4 most w q names cs.reverse.reverse (1 + c) [] (seenD []) [] none none none none none none) := by
    rw [List.reverse_reverse]
    rfl
  have hmw : q * w ≤ most * w := Nat.mul_le_mul_right w q1
  obtain ⟨pen5, seen5, tl, rc, pr, n, y10, y11, y12, y13, y14, y15, e5, hp5, I⟩ := plain_loop (most := most) (many := q) (rc0 := cs.reverse) (cl := 1 + c) (names := names) (w := w) (by omega) (by omega) w0 w1 (by omega) n3 (fun s hs => (m3 s (List.mem_reverse.mp hs)).1) ((List.reverse_perm cs).nodup_iff.mpr m2) (by rw [List.length_reverse, n1, m1']; omega) (by rw [List.length_reverse]; omega) q
    (T := T + 22) (k := 0) (n := 0) (pen := pen4) (seen := seenD []) (tl := []) (rc := cs.reverse) (prs := []) (z10 := none) (z11 := none) (z12 := none) (z13 := none) (z14 := none) (z15 := none) rfl rfl rfl rfl rfl rfl (hp4.mono (by omega)) (by omega)
    { nm := rfl, col := rfl, len := rfl, wid := by omega, ok := (by simp), seen := ⟨[], rfl, by simp, by simp⟩, pr := (by simp), prl := (by simp) } (by omega)
  have s4 : mFor (.nm 10) (mRg1 (mV 3)) plB (plE pen4 most w q names cs.reverse.reverse (1 + c) [] (seenD []) [] none none none none none none) = .nx (plE pen5 most w q names rc.reverse (1 + c) (tl.map tbT) seen5 (pr.map prD) y10 y11 y12 y13 y14 y15) := by
    rw [ev_for (ev_rg (o := false) (ev_vs (d := .int (q : Int)) rfl) (by omega) (by omega)), rngD_nat, List.range_eq_range']
    exact e5
  have s5 : mRet (mDct [(mC (.str "tables"), mV 7), (mC (.str "pairs"), mV 9)]) (plE pen5 most w q names rc.reverse (1 + c) (tl.map tbT) seen5 (pr.map prD) y10 y11 y12 y13 y14 y15) = .rt (plainD tl pr) true ((((plE pen5 most w q names rc.reverse (1 + c) (tl.map tbT) seen5 (pr.map prD) y10 y11 y12 y13 y14 y15)).set 7 (some (.lst (tl.map tbT), .s))).set 9 (some (.lst (pr.map prD), .s))) := rfl
  have hlen : (colsOf tl).length ≤ 20 := by
    have := congrArg List.length I.col
    rw [List.length_append, List.length_reverse, m1'] at this
    omega
  have htl : tl.map (·.name) = names := by rw [I.nm, List.take_length]
  refine ⟨tl, pr, pen5, mk_rt ((ev_seq s1).trans ((ev_seq s2).trans ((ev_seq s3).trans ((ev_seq s4).trans s5)))), ?_, hp5.mono (by omega)⟩
  have htl2 : tl.length = q := by rw [← n1, ← htl, List.length_map]
  exact {
    ne := by omega
    le := by omega
    nd := by rw [htl]; exact n2
    cols := by
      have : (colsOf tl ++ rc).Nodup := by rw [I.col]; exact (List.reverse_perm cs).nodup_iff.mpr m2
      exact (List.nodup_append.mp this).1
    len := hlen
    ok := I.ok
    pr := I.pr
    prl := by have := I.prl; have := I.len; omega }
end K39

set_option Elab.async false
set_option linter.all false
set_option maxRecDepth 100000
set_option maxHeartbeats 1000000
/-! K39M6: the tables of a query, checked. -/
namespace K39
open PySem DL
/-- the Table made of a plain one -/
def mkT (t : Tb) : D := tbl t.name t.own t.un t.kind
theorem mch_ok {lo hi n : Int} {a b c : ME} {E : EV} (ha : a E = .ok (.int lo) false E) (hb : b E = .ok (.int n) false E) (hc : c E = .ok (.int hi) false E) (h1 : lo ≤ n) (h2 : n ≤ hi) : mCh (cmpP fun i j => decide (i ≤ j)) (cmpP fun i j => decide (i ≤ j)) a b c E = .ok (.bl true) false E := by
  unfold mCh bindE
  simp only [ha, hb]
  show (match (some (D.bl (decide (lo ≤ n)), false) : RP) with
      | some (.bl true, false) => _
      | some (.bl false, false) => _
      | _ => _) = _
  rw [decide_eq_true h1]
  simp only [hc]
  show RE.ok (.bl (decide (n ≤ hi))) false E = _
  rw [decide_eq_true h2]
theorem prs_ne : ∀ (ss : List Str), ss.Pairwise (fun a b => sLe a b = true) → ss.Nodup → ∀ d ∈ prs ss, ∃ a b : Str, d = .tup [.str a, .str b] ∧ a ≠ b
  | [], _, _, d, h => by simp [prs] at h
  | [a], _, _, d, h => by simp [prs] at h
  | a :: b :: r, hs, hn, d, h => by
    have hn1 := List.nodup_cons.mp hn
    rcases List.mem_cons.mp h with rfl | h
    · exact ⟨a, b, rfl, fun e => hn1.1 (by rw [e]; exact List.mem_cons_self)⟩
    · exact prs_ne (b :: r) (List.pairwise_cons.mp hs).2 hn1.2 d h
theorem neP_str {a b : Str} (h : a ≠ b) : neP (.str a) (.str b) = some (.bl true, false) := by
  show some (D.bl (!(a == b)), false) = _
  simp [h]
/-- the slots of are_tables -/
def atE (v : D) (m : Int) (s2 s3 s4 s5 s6 s7 : Sl) : EV := [some (v, .s), some (.int m, .s), s2, s3, s4, s5, s6, s7]
theorem ne_loop {v : D} {m : Int} {s3 s5 s6 : Sl} : ∀ (ds acc : List D) (z2 z7 : Sl), freeE [z2] 0 = true → freeE [z7] 0 = true → acc.length + ds.length ≤ 1000 → (∀ d ∈ ds, ∃ a b : Str, d = .tup [.str a, .str b] ∧ a ≠ b) →
    ∃ y2 y7, lcI (.tp [.nm 2, .nm 7]) [2, 7] mYes (mO2 neP (.pl 2) (.pl 7)) ds acc (atE v m z2 s3 none s5 s6 z7) = some (acc ++ List.replicate ds.length (.bl true), atE v m y2 s3 none s5 s6 y7) ∧ freeE [y2] 0 = true ∧ freeE [y7] 0 = true
  | [], acc, z2, z7, f2, f7, _, _ => ⟨z2, z7, by show some (acc, _) = some (acc ++ [], _); rw [List.append_nil], f2, f7⟩
  | d :: ds, acc, z2, z7, f2, f7, hl, h => by
    obtain ⟨a, b, rfl, hab⟩ := h d List.mem_cons_self
    rw [List.length_cons] at hl
    have e : mO2 neP (.pl 2) (.pl 7) (atE v m (some (.str a, .s)) s3 none s5 s6 (some (.str b, .s))) = .ok (.bl true) false (atE v m (some (.str a, .s)) s3 none s5 s6 (some (.str b, .s))) :=
      ev_pp (t := .s) (t' := .s) rfl rfl (neP_str hab)
    obtain ⟨y2, y7, e2, g2, g7⟩ := ne_loop (v := v) (m := m) (s3 := s3) (s5 := s5) (s6 := s6) ds (acc ++ [.bl true]) (some (.str a, .s)) (some (.str b, .s)) rfl rfl (by rw [List.length_append]; simp; omega) fun x hx => h x (List.mem_cons_of_mem _ hx)
    refine ⟨y2, y7, ?_, g2, g7⟩
    show (match mO2 neP (.pl 2) (.pl 7) (atE v m (some (.str a, .s)) s3 none s5 s6 (some (.str b, .s))) with
        | .ok d' _ e2 => match decide (acc.length < sizeLine) with
          | true => lcI (.tp [.nm 2, .nm 7]) [2, 7] mYes (mO2 neP (.pl 2) (.pl 7)) ds (acc ++ [d']) e2
          | false => none
        | _ => none) = _
    rw [e]
    show (match decide (acc.length < sizeLine) with
          | true => lcI (.tp [.nm 2, .nm 7]) [2, 7] mYes (mO2 neP (.pl 2) (.pl 7)) ds (acc ++ [D.bl true]) (atE v m (some (.str a, .s)) s3 none s5 s6 (some (.str b, .s)))
          | false => none) = _
    rw [decide_eq_true (by rw [sizeLine_eq]; omega : acc.length < sizeLine)]
    show lcI (.tp [.nm 2, .nm 7]) [2, 7] mYes (mO2 neP (.pl 2) (.pl 7)) ds (acc ++ [D.bl true]) (atE v m (some (.str a, .s)) s3 none s5 s6 (some (.str b, .s))) = _
    rw [e2, List.append_assoc]
    rfl
theorem zip_at {v : D} {m : Int} {s2 s3 s5 s7 : Sl} (ss : List Str) : mZip (mV 6) (mSl (.pl 6) (some (mC (.int 1))) none) (atE v m s2 s3 none s5 (some (.lst (sl ss), .s)) s7) = .ok (prs ss) (atE v m s2 s3 none s5 (some (.lst (sl ss), .s)) s7) := by
  show RI.ok (zipD (sl ss) (cutD (sl ss) (some 1) none)) _ = _
  rw [cut1, zip_prs]
theorem lsts_map {α : Type} (f : α → List D) : ∀ as : List α, lstsD (as.map fun a => D.lst (f a)) = some (as.map f)
  | [] => rfl
  | a :: r => by
    rw [List.map_cons, List.map_cons]
    show (match lstsD (r.map fun a => D.lst (f a)) with | some l => some (f a :: l) | none => none) = _
    rw [lsts_map f r]
theorem prs_len : ∀ ss : List Str, (prs ss).length ≤ ss.length
  | [] => by simp [prs]
  | [a] => by simp [prs]
  | a :: b :: r => by
    have := prs_len (b :: r)
    simp only [prs, List.length_cons] at this ⊢
    omega
theorem are_tables_ok {tl : List Tb} {ps : List (Str × Str)} {most : Nat} (h : PlainOk tl ps most) (hm : most ≤ 8) : c_are_tables [.lst (tl.map mkT), .int 8] = .ok (.bl true) false none := by
  have hlen := h.len
  have hle := h.le
  have hne := h.ne
  let v : D := .lst (tl.map mkT)
  let names := tl.map (·.name)
  let N : Sl := some (.lst (sl (sSort names)), .o)
  let C : Sl := some (.lst (sl (sSort (colsOf tl))), .o)
  let E0 := atE v 8 none none none none none none
  have t1 : mNotT (mT (mCall c_is_listed [mV 0] [])) E0 = .ok false E0 := ev_not (ev_T (ev_call (dds := []) (ev_cons (o := false) (ev_vs rfl) ev_nil) (by rfl : c_is_listed [v] = .ok (.bl true) false none)))
  have hl : lenP v = some (.int tl.length, false) := by
    show some (D.int (tl.map mkT).length, false) = _
    rw [List.length_map]
  have t2 : mNotT (mT (mCh (cmpP fun i j => decide (i ≤ j)) (cmpP fun i j => decide (i ≤ j)) (mC (.int 1)) (mO1 lenP (.pl 0)) (mV 1))) E0 = .ok false E0 :=
    ev_not (k := true) (ev_T (o := false) (mch_ok rfl (ev_p (t := .s) rfl hl) rfl (by omega) (by omega)))
  have e3 : mLc (.nm 2) [2] (itSq (mV 0)) mYes (mO1 (isiP anc [0, 1] [.own 0]) (.pl 2)) E0 = .ok (.lst (tl.map fun _ => .bl true)) true E0 :=
    ev_lcA (g := mkT) (f := fun _ => .bl true) (i := 2) (e1 := E0) rfl (fun t _ => ⟨false, rfl⟩) (by simp [E0, atE]) (by decide)
  have t3 : mNotT (mT (mO1 allP (.ex (mLc (.nm 2) [2] (itSq (mV 0)) mYes (mO1 (isiP anc [0, 1] [.own 0]) (.pl 2)))))) E0 = .ok false E0 := ev_not (ev_T (ev_x e3 (all_yes _)))
  have e4 : mLc (.nm 4) [4] (itSq (mV 0)) mYes (mO1 (attrP ix_name) (.pl 4)) E0 = .ok (.lst (sl names)) true E0 := by
    have := ev_lcA (env := E0) (me := mO1 (attrP ix_name) (.pl 4)) (mi := itSq (mV 0)) (as := tl) (g := mkT) (f := fun t => .str t.name) (i := 4) (e1 := E0) rfl (fun t _ => ⟨false, rfl⟩) (by simp [E0, atE]) (by decide)
    rw [this]
    simp [sl, names]
    rfl
  have s4 : mSet 3 (mO1 sortQ (.ex (mLc (.nm 4) [4] (itSq (mV 0)) mYes (mO1 (attrP ix_name) (.pl 4))))) E0 = .nx (atE v 8 none N none none none none) :=
    ev_set (o := true) (ev_x e4 (sortQ_s (.inl rfl) (by simp only [names, List.length_map]; omega))) rfl
  have e5 : mLc (.nm 4) [4] (itSq (mV 0)) mYes (mO1 listQ (.ex (mO1 (attrP ix_columns) (.pl 4)))) (atE v 8 none N none none none none) = .ok (.lst (tl.map fun t => .lst (sl t.own))) true (atE v 8 none N none none none none) :=
    ev_lcA (g := mkT) (f := fun t => .lst (sl t.own)) (i := 4) (e1 := atE v 8 none N none none none none) rfl (fun t _ => ⟨true, rfl⟩) (by simp [atE]) (by decide)
  have e6 : mO2 sumLP (.ex (mLc (.nm 4) [4] (itSq (mV 0)) mYes (mO1 listQ (.ex (mO1 (attrP ix_columns) (.pl 4)))))) (.ex (mLst [])) (atE v 8 none N none none none none) = .ok (.lst (sl (colsOf tl))) true (atE v 8 none N none none none none) := by
    refine ev_xx e5 (o2 := true) (y := .lst []) rfl ?_
    have hf : (tl.map fun (t : Tb) => sl t.own).flatten = sl (colsOf tl) := by
      unfold sl
      rw [List.map_flatMap, List.flatMap_def]
    show (match lstsD (tl.map fun (t : Tb) => D.lst (sl t.own)) with
      | some l => match decide (0 < (tl.map fun (t : Tb) => D.lst (sl t.own)).length) && decide (l.flatten.length ≤ sizeLine) with
        | true => some (D.lst l.flatten, true)
        | false => none
      | none => none) = _
    rw [lsts_map]
    show (match decide (0 < (tl.map fun (t : Tb) => D.lst (sl t.own)).length) && decide ((tl.map fun (t : Tb) => sl t.own).flatten.length ≤ sizeLine) with
        | true => some (D.lst (tl.map fun (t : Tb) => sl t.own).flatten, true)
        | false => none) = _
    rw [hf, decide_eq_true (by rw [List.length_map]; omega : 0 < (tl.map fun (t : Tb) => D.lst (sl t.own)).length), decide_eq_true (by rw [slen, sizeLine_eq]; omega : (sl (colsOf tl)).length ≤ sizeLine)]
    rfl
  have s5 : mSet 5 (mO1 sortQ (.ex (mO2 sumLP (.ex (mLc (.nm 4) [4] (itSq (mV 0)) mYes (mO1 listQ (.ex (mO1 (attrP ix_columns) (.pl 4)))))) (.ex (mLst []))))) (atE v 8 none N none none none none) = .nx (atE v 8 none N none C none none) :=
    ev_set (o := true) (ev_x e6 (sortQ_s (.inl rfl) (by omega))) rfl
  let N' : Sl := some (.lst (sl (sSort names)), .s)
  let C' : Sl := some (.lst (sl (sSort (colsOf tl))), .s)
  have hn1 : (sSort names).Nodup := (sSort_perm names).nodup_iff.mpr h.nd
  have hc1 : (sSort (colsOf tl)).Nodup := (sSort_perm _).nodup_iff.mpr h.cols
  have ln1 : (sSort names).length ≤ 8 := by rw [(sSort_perm names).length_eq]; simp only [names, List.length_map]; omega
  have lc1 : (sSort (colsOf tl)).length ≤ 20 := by rw [(sSort_perm _).length_eq]; exact hlen
  obtain ⟨y2, y7, l1, g2, g7⟩ := ne_loop (v := v) (m := 8) (s3 := N') (s5 := C') (s6 := some (.lst (sl (sSort names)), .s)) (prs (sSort names)) [] none none rfl rfl (by have := prs_len (sSort names); simp; omega) (prs_ne _ (sSort_sorted names) hn1)
  obtain ⟨x2, x7, l2, k2, k7⟩ := ne_loop (v := v) (m := 8) (s3 := N') (s5 := C') (s6 := some (.lst (sl (sSort (colsOf tl))), .s)) (prs (sSort (colsOf tl))) (List.replicate (prs (sSort names)).length (.bl true)) none none rfl rfl (by have := prs_len (sSort (colsOf tl)); have := prs_len (sSort names); rw [List.length_replicate]; omega) (prs_ne _ (sSort_sorted _) hc1)
  rw [List.nil_append] at l1
  have e7 : mLc2 (.nm 6) [6, 2, 7] (itSq (mTup [mV 3, mV 5])) mYes (mZip (mV 6) (mSl (.pl 6) (some (mC (.int 1))) none)) (.tp [.nm 2, .nm 7]) [2, 7] mYes (mO2 neP (.pl 2) (.pl 7)) (atE v 8 none N none C none none) = .ok (.lst (List.replicate ((prs (sSort names)).length + (prs (sSort (colsOf tl))).length) (.bl true))) true (atE v 8 none N' none C' none none) := by
    show lc2E (.nm 6) [6, 2, 7] mYes (mZip (mV 6) (mSl (.pl 6) (some (mC (.int 1))) none)) (.tp [.nm 2, .nm 7]) [2, 7] mYes (mO2 neP (.pl 2) (.pl 7)) [.lst (sl (sSort names)), .lst (sl (sSort (colsOf tl)))] [] (atE v 8 none N' none C' none none) = _
    show (match mZip (mV 6) (mSl (.pl 6) (some (mC (.int 1))) none) (atE v 8 none N' none C' (some (.lst (sl (sSort names)), .s)) none) with
        | .ok ds1 e2 => match lcI (.tp [.nm 2, .nm 7]) [2, 7] mYes (mO2 neP (.pl 2) (.pl 7)) ds1 [] e2 with
          | some (acc', e3) => lc2E (.nm 6) [6, 2, 7] mYes (mZip (mV 6) (mSl (.pl 6) (some (mC (.int 1))) none)) (.tp [.nm 2, .nm 7]) [2, 7] mYes (mO2 neP (.pl 2) (.pl 7)) [.lst (sl (sSort (colsOf tl)))] acc' e3
          | none => .bad
        | _ => .bad) = _
    rw [zip_at]
    simp only [l1]
    show (match mZip (mV 6) (mSl (.pl 6) (some (mC (.int 1))) none) (atE v 8 none N' none C' (some (.lst (sl (sSort (colsOf tl))), .s)) none) with
        | .ok ds1 e2 => match lcI (.tp [.nm 2, .nm 7]) [2, 7] mYes (mO2 neP (.pl 2) (.pl 7)) ds1 (List.replicate (prs (sSort names)).length (.bl true)) e2 with
          | some (acc', e3) => lc2E (.nm 6) [6, 2, 7] mYes (mZip (mV 6) (mSl (.pl 6) (some (mC (.int 1))) none)) (.tp [.nm 2, .nm 7]) [2, 7] mYes (mO2 neP (.pl 2) (.pl 7)) [] acc' e3
          | none => .bad
        | _ => .bad) = _
    rw [zip_at]
    simp only [l2]
    rw [List.replicate_append_replicate]
    rfl
  refine mk_rt (e := atE v 8 none N' none C' none none) ?_
  exact (ev_seq (ev_ifN ((ev_orF t1).trans ((ev_orF t2).trans t3)))).trans ((ev_seq s4).trans ((ev_seq s5).trans (ev_ret (ev_x e7 (all_true _)))))
end K39

set_option Elab.async false
set_option linter.all false
set_option maxRecDepth 100000
set_option maxHeartbeats 1000000
/-! K39M7: a Query made. -/
namespace K39
open PySem DL
/-- the slots of Query.__init__ -/
def qE (s : D) (t p : D) (h a c q : Sl) : EV := [some (s, .p), some (t, .s), some (p, .s), h, a, c, q]
theorem home_in {s t p : D} {a : Tb} {h q : Sl} : ∀ (cs : List Str) (acc : List (L2.Key × D)) (z : Sl), freeE [z] 0 = true → acc.length + cs.length ≤ 1000 →
    ∃ acc' z', dcI (.nm 5) [5] mYes (mV 5) (mO1 (attrP ix_name) (.pl 4)) (sl cs) acc (qE s t p h (some (mkT a, .s)) z q) = some (acc', qE s t p h (some (mkT a, .s)) z' q) ∧ freeE [z'] 0 = true ∧ acc'.length ≤ acc.length + cs.length ∧ ∀ c, lookD acc' (Sum.inr c) = if c ∈ cs then some (.str a.name) else lookD acc (Sum.inr c)
  | [], acc, z, hz, _ => ⟨acc, z, rfl, hz, by simp, fun c => by simp⟩
  | c :: cs, acc, z, hz, hl => by
    rw [List.length_cons] at hl
    have pl := putD_len acc (Sum.inr c) (D.str a.name)
    obtain ⟨acc2, z2, e2, g2, l2, k2⟩ := home_in (s := s) (t := t) (p := p) (a := a) (h := h) (q := q) cs (putD acc (Sum.inr c) (.str a.name)) (some (.str c, .s)) rfl (by omega)
    refine ⟨acc2, z2, ?_, g2, by rw [List.length_cons]; omega, fun x => ?_⟩
    · show (match decide (acc.length < sizeLine) with
        | true => dcI (.nm 5) [5] mYes (mV 5) (mO1 (attrP ix_name) (.pl 4)) (sl cs) (putD acc (Sum.inr c) (.str a.name)) (qE s t p h (some (mkT a, .s)) (some (.str c, .s)) q)
        | false => none) = _
      rw [decide_eq_true (by rw [sizeLine_eq]; omega : acc.length < sizeLine)]
      exact e2
    · rw [k2 x]
      by_cases h1 : x ∈ cs
      · rw [if_pos h1, if_pos (List.mem_cons_of_mem _ h1)]
      · rw [if_neg h1, lookD_put]
        by_cases h2 : c = x
        · subst h2
          rw [if_pos rfl, if_pos List.mem_cons_self]
        · rw [if_neg (fun e => h2 (by injection e)), if_neg (by simp [h1]; exact fun e => h2 e.symm)]
abbrev hmM : ME := mDc2 (.nm 4) [4, 5] (itSq (mV 1)) (mYes) (itSq (mO1 (attrP ix_columns) (.pl 4))) (.nm 5) [5] (mYes) (mV 5) (mO1 (attrP ix_name) (.pl 4))
theorem home_out {s t p : D} {h q : Sl} : ∀ (tl : List Tb) (acc : List (L2.Key × D)) (z4 z5 : Sl), freeE [z4] 0 = true → freeE [z5] 0 = true → acc.length + (colsOf tl).length ≤ 1000 → (colsOf tl).Nodup →
    ∃ kvs, dc2E (.nm 4) [4, 5] mYes (itSq (mO1 (attrP ix_columns) (.pl 4))) (.nm 5) [5] mYes (mV 5) (mO1 (attrP ix_name) (.pl 4)) (tl.map mkT) acc (qE s t p h z4 z5 q) = .ok (.dct kvs) true (qE s t p h none none q) ∧ (∀ a ∈ tl, ∀ c ∈ a.own, lookD kvs (Sum.inr c) = some (.str a.name)) ∧ (∀ c, c ∉ colsOf tl → lookD kvs (Sum.inr c) = lookD acc (Sum.inr c))
  | [], acc, z4, z5, _, _, _, _ => ⟨acc, rfl, by simp, fun c _ => rfl⟩
  | a :: tl, acc, z4, z5, f4, f5, hl, hn => by
    have hc : colsOf (a :: tl) = a.own ++ colsOf tl := rfl
    rw [hc, List.length_append] at hl
    rw [hc] at hn
    obtain ⟨n1, n2, n3⟩ := List.nodup_append.mp hn
    obtain ⟨acc1, y5, e1, g5, l1, k1⟩ := home_in (s := s) (t := t) (p := p) (a := a) (h := h) (q := q) a.own acc none rfl (by omega)
    obtain ⟨kvs, e2, k2, k3⟩ := home_out (s := s) (t := t) (p := p) (h := h) (q := q) tl acc1 (some (mkT a, .s)) y5 rfl g5 (by omega) n2
    refine ⟨kvs, ?_, fun b hb c hcb => ?_, fun c hcn => ?_⟩
    · show (match dcI (.nm 5) [5] mYes (mV 5) (mO1 (attrP ix_name) (.pl 4)) (sl a.own) acc (qE s t p h (some (mkT a, .s)) none q) with
        | some (acc', e3) => dc2E (.nm 4) [4, 5] mYes (itSq (mO1 (attrP ix_columns) (.pl 4))) (.nm 5) [5] mYes (mV 5) (mO1 (attrP ix_name) (.pl 4)) (tl.map mkT) acc' e3
        | none => .bad) = _
      rw [e1]
      exact e2
    · rcases List.mem_cons.mp hb with rfl | hb
      · rw [k3 c fun h2 => n3 c hcb c h2 rfl, k1 c, if_pos hcb]
      · exact k2 b hb c hcb
    · rw [hc] at hcn
      rw [k3 c fun h2 => hcn (List.mem_append_right _ h2), k1 c, if_neg fun h2 => hcn (List.mem_append_left _ h2)]
theorem inj_map {α β : Type} {f : α → β} : ∀ {l : List α}, (l.map f).Nodup → ∀ a ∈ l, ∀ b ∈ l, f a = f b → a = b
  | [], _, a, h, _, _, _ => by simp at h
  | x :: l, hn, a, ha, b, hb, e => by
    have h1 := List.nodup_cons.mp (by rw [List.map_cons] at hn; exact hn)
    rcases List.mem_cons.mp ha with ea | ha <;> rcases List.mem_cons.mp hb with eb | hb
    · rw [ea, eb]
    · exact absurd (List.mem_map.mpr ⟨b, hb, by rw [← e, ea]⟩) h1.1
    · exact absurd (List.mem_map.mpr ⟨a, ha, by rw [e, eb]⟩) h1.1
    · exact inj_map h1.2 a ha b hb e
theorem pair_checked {kvs : List (L2.Key × D)} {a b x y : Str} (ha : NameOk a) (hb : NameOk b) (h1 : lookD kvs (Sum.inr a) = some (.str x)) (h2 : lookD kvs (Sum.inr b) = some (.str y)) (hxy : x ≠ y) : c_is_pair [prD (a, b), .dct kvs] = .ok (.bl true) false none := by
  let E (z : Sl) : EV := [some (prD (a, b), .s), some (.dct kvs, .s), z]
  have t1 : mNotT (mT (mCall c_is_listed [mV 0] [])) (E none) = .ok false (E none) := ev_not (ev_T (ev_call (dds := []) (ev_cons (o := false) (ev_vs rfl) ev_nil) (by rfl : c_is_listed [prD (a, b)] = .ok (.bl true) false none)))
  have t2 : mT (mO2 neP (.ex (mO1 lenP (.pl 0))) (.ex (mC (.int 2)))) (E none) = .ok false (E none) := rfl
  have it : ∀ (c z : Str), NameOk c → lookD kvs (Sum.inr c) = some (.str z) → mAndV (mCall c_is_name [mV 2] []) (mO2 (hasK false) (.pl 2) (.pl 1)) (E (some (.str c, .s))) = .ok (.bl true) false (E (some (.str c, .s))) := fun c z hc hz =>
    ev_andV (k := true) (o1 := false) (ev_call (dds := []) (ev_cons (o := false) (ev_vs rfl) ev_nil) (is_name_ok hc)) (fun _ => ev_pp (t := .s) (t' := .s) (x := .str c) (y := .dct kvs) rfl rfl (by
      show some (D.bl (xor false (lookD kvs (Sum.inr c)).isSome), false) = _
      rw [hz]; rfl)) (fun h => by cases h)
  have e3 : mLc (.nm 2) [2] (itSq (mV 0)) mYes (mAndV (mCall c_is_name [mV 2] []) (mO2 (hasK false) (.pl 2) (.pl 1))) (E none) = .ok (.lst ([a, b].map fun _ => .bl true)) true (E none) :=
    ev_lcA (g := D.str) (f := fun _ => .bl true) (i := 2) (e1 := E none) rfl (fun c hc => ⟨false, by
      simp only [List.mem_cons, List.not_mem_nil, or_false] at hc
      rcases hc with rfl | rfl
      · exact it _ _ ha h1
      · exact it _ _ hb h2⟩) (by simp [E]) (by decide)
  have t3 : mNotT (mT (mO1 allP (.ex (mLc (.nm 2) [2] (itSq (mV 0)) mYes (mAndV (mCall c_is_name [mV 2] []) (mO2 (hasK false) (.pl 2) (.pl 1))))))) (E none) = .ok false (E none) := ev_not (ev_T (ev_x e3 (all_yes [a, b])))
  have gt : ∀ c z, lookD kvs (Sum.inr c) = some (.str z) → dgetP (.dct kvs) (.str c) = some (.str z, false) := fun c z hz => by
    show (lookD kvs (Sum.inr c)).map (fun d => (d, false)) = _
    rw [hz]; rfl
  have e4 : mO2 neP (.ex (mO2 dgetP (.pl 1) (.ex (mO2 ixP (.pl 0) (.ex (mC (.int 0))))))) (.ex (mO2 dgetP (.pl 1) (.ex (mO2 ixP (.pl 0) (.ex (mC (.int 1))))))) (E none) = .ok (.bl true) false (E none) :=
    ev_xx (ev_px (t := .s) (t' := .s) (x0 := .dct kvs) (y := .str a) (o2 := false) rfl rfl rfl (gt a x h1)) (ev_px (t := .s) (t' := .s) (x0 := .dct kvs) (y := .str b) (o2 := false) rfl rfl rfl (gt b y h2)) (neP_str hxy)
  exact mk_rt (e := E none) ((ev_seq (ev_ifN ((ev_orF t1).trans ((ev_orF t2).trans t3)))).trans (ev_ret e4))
/-- the tables in the order of their names -/
def byN (tl : List Tb) : List Tb := tl.mergeSort fun a b => leA ix_name (mkT a) (mkT b)
theorem byN_perm (tl : List Tb) : (byN tl).Perm tl := List.mergeSort_perm _ _
def qryD (tl : List Tb) (pr : List (Str × Str)) : D := .obj 1 [.tup ((byN tl).map mkT), .tup (pr.map prD), .tup (sl ((byN tl).map (·.name)))]
theorem by_names_ok {tl : List Tb} (hl : tl.length ≤ 1000) : c_by_names [.lst (tl.map mkT)] = .ok (.tup ((byN tl).map mkT)) false none := by
  have hs : sortAP ix_name (.lst (tl.map mkT)) = some (.lst ((byN tl).map mkT), true) := by
    show (match ((tl.map mkT).all fun d => (fldS ix_name d).isSome) && decide ((tl.map mkT).length ≤ sizeLine) with | true => some (D.lst ((tl.map mkT).mergeSort (leA ix_name)), true) | false => none) = _
    rw [show ((tl.map mkT).all fun d => (fldS ix_name d).isSome) = true by rw [List.all_map]; exact List.all_eq_true.mpr fun _ _ => rfl, decide_eq_true (by rw [List.length_map, sizeLine_eq]; omega : (tl.map mkT).length ≤ sizeLine)]
    show some (D.lst ((tl.map mkT).mergeSort (leA ix_name)), true) = _
    rw [← List.map_mergeSort (r := fun a b => leA ix_name (mkT a) (mkT b)) (fun a _ b _ => rfl)]
    rfl
  have em : mSortA ix_name (mV 0) [some (.lst (tl.map mkT), .s)] = .ok (.lst ((byN tl).map mkT)) true [some (.lst (tl.map mkT), .s)] := by
    show liftP (sortAP ix_name (.lst (tl.map mkT))) _ = _
    rw [hs]; rfl
  exact mk_rt (e := [some (.lst (tl.map mkT), .s)]) (ev_ret (ev_x em rfl))
theorem pr_loop {s t p : D} {kvs : List (L2.Key × D)} {a c : Sl} : ∀ (ps : List (Str × Str)) (acc : List D) (u : Tag) (z : Sl), (u = .o ∨ u = .s) → freeE [z] 0 = true → (∀ q ∈ ps, c_is_pair [prD q, .dct kvs] = .ok (.bl true) false none) →
    ∃ u', (u' = .o ∨ u' = .s) ∧ lcE (.nm 6) [6] mYes (mCall c_is_pair [mV 6, mV 3] []) (ps.map prD) acc (qE s t p (some (.dct kvs, u)) a c z) = .ok (.lst (acc ++ ps.map fun _ => .bl true)) true (qE s t p (some (.dct kvs, u')) a c none)
  | [], acc, u, z, hu, hz, _ => ⟨u, hu, by rw [List.map_nil, List.map_nil, List.append_nil]; rfl⟩
  | q :: ps, acc, u, z, hu, hz, h => by
    have e : mCall c_is_pair [mV 6, mV 3] [] (qE s t p (some (.dct kvs, u)) a c (some (prD q, .s))) = .ok (.bl true) false (qE s t p (some (.dct kvs, .s)) a c (some (prD q, .s))) := by
      rcases hu with rfl | rfl
      · exact ev_call (dds := []) (ev_cons (o := false) (ev_vs rfl) (ev_cons (o := false) (ev_vo rfl) ev_nil)) (h q List.mem_cons_self)
      · exact ev_call (dds := []) (ev_cons (o := false) (ev_vs rfl) (ev_cons (o := false) (ev_vs rfl) ev_nil)) (h q List.mem_cons_self)
    obtain ⟨u', hu', e2⟩ := pr_loop (s := s) (t := t) (p := p) (kvs := kvs) (a := a) (c := c) ps (acc ++ [.bl true]) .s (some (prD q, .s)) (.inr rfl) rfl fun x hx => h x (List.mem_cons_of_mem _ hx)
    refine ⟨u', hu', ?_⟩
    show (match mCall c_is_pair [mV 6, mV 3] [] (qE s t p (some (.dct kvs, u)) a c (some (prD q, .s))) with
      | .ok d' _ e2 => lcE (.nm 6) [6] mYes (mCall c_is_pair [mV 6, mV 3] []) (ps.map prD) (acc ++ [d']) e2
      | _ => .bad) = _
    rw [e]
    show lcE (.nm 6) [6] mYes (mCall c_is_pair [mV 6, mV 3] []) (ps.map prD) (acc ++ [.bl true]) _ = _
    rw [e2, List.append_assoc]
    rfl
theorem tab_name {tl : List Tb} {ps : List (Str × Str)} {most : Nat} (h : PlainOk tl ps most) {a b : Tb} (ha : a ∈ tl) (hb : b ∈ tl) (hab : a ≠ b) : a.name ≠ b.name := fun e => hab (inj_map h.nd a ha b hb e)
theorem query_init {tl : List Tb} {ps : List (Str × Str)} {most : Nat} (h : PlainOk tl ps most) (hm : most ≤ 8) : c_Query___init__ [.obj 1 [], .lst (tl.map mkT), .lst (ps.map prD)] = .ok .non false (some (qryD tl ps)) := by
  have hlen := h.len
  have hle := h.le
  let t : D := .lst (tl.map mkT)
  let p : D := .lst (ps.map prD)
  let T0 : D := .tup ((byN tl).map mkT)
  let P0 : D := .tup (ps.map prD)
  let N0 : D := .tup (sl ((byN tl).map (·.name)))
  let E0 := qE (.obj 1 []) t p none none none none
  have t1 : mNotT (mT (mCall c_are_tables [mV 1, mC (.int 8)] [])) E0 = .ok false E0 := ev_not (ev_T (ev_call (dds := []) (ev_cons (o := false) (ev_vs rfl) (ev_cons (o := false) rfl ev_nil)) (are_tables_ok h hm)))
  obtain ⟨kvs, e2, k2, -⟩ := home_out (s := .obj 1 []) (t := t) (p := p) (h := none) (q := none) tl [] none none rfl rfl (by rw [List.length_nil]; omega) h.cols
  let Hm : Sl := some (.dct kvs, .o)
  have s2 : mSet 3 hmM E0 = .nx (qE (.obj 1 []) t p Hm none none none) := ev_set (o := true) (e := qE (.obj 1 []) t p none none none none) (d := .dct kvs) e2 rfl
  have t3 : mNotT (mT (mCall c_is_listed [mV 2] [])) (qE (.obj 1 []) t p Hm none none none) = .ok false (qE (.obj 1 []) t p Hm none none none) := ev_not (ev_T (ev_call (dds := []) (ev_cons (o := false) (ev_vs rfl) ev_nil) (by rfl : c_is_listed [p] = .ok (.bl true) false none)))
  obtain ⟨u, hu, e4⟩ := pr_loop (s := .obj 1 []) (t := t) (p := p) (kvs := kvs) (a := none) (c := none) ps [] .o none (.inl rfl) rfl fun q hq => by
    obtain ⟨a, ha, b, hb, hab, h1, h2⟩ := h.pr q hq
    exact pair_checked ((h.ok a ha).cols.nm _ h1) ((h.ok b hb).cols.nm _ h2) (k2 a ha _ h1) (k2 b hb _ h2) (tab_name h ha hb hab)
  let Hu : Sl := some (.dct kvs, u)
  have t4 : mNotT (mT (mO1 allP (.ex (mLc (.nm 6) [6] (itSq (mV 2)) mYes (mCall c_is_pair [mV 6, mV 3] []))))) (qE (.obj 1 []) t p Hm none none none) = .ok false (qE (.obj 1 []) t p Hu none none none) :=
    ev_not (ev_T (ev_x (ev_lc (e1 := qE (.obj 1 []) t p Hm none none none) rfl e4 (by decide)) (all_yes ps)))
  have s5 : mFld 0 ix_tables (mCall c_by_names [mV 1] []) (qE (.obj 1 []) t p Hu none none none) = .nx (qE (.obj 1 [T0]) t p Hu none none none) := by
    unfold mFld bindS
    rw [ev_call (dds := []) (env := qE (.obj 1 []) t p Hu none none none) (ev_cons (o := false) (ev_vs (d := t) rfl) ev_nil) (by_names_ok (by omega))]
    rfl
  have e6 : mLc (.nm 6) [6] (itSq (mV 2)) mYes (mO1 tupleP (.pl 6)) (qE (.obj 1 [T0]) t p Hu none none none) = .ok (.lst (ps.map prD)) true (qE (.obj 1 [T0]) t p Hu none none none) :=
    ev_lcA (g := prD) (f := prD) (i := 6) (e1 := qE (.obj 1 [T0]) t p Hu none none none) rfl (fun q _ => ⟨false, rfl⟩) (by simp [qE]) (by decide)
  have s6 : mFld 0 ix_pairs (mO1 tupleP (.ex (mLc (.nm 6) [6] (itSq (mV 2)) mYes (mO1 tupleP (.pl 6))))) (qE (.obj 1 [T0]) t p Hu none none none) = .nx (qE (.obj 1 [T0, P0]) t p Hu none none none) := by
    unfold mFld bindS
    rw [ev_x e6 (rfl : tupleP (.lst (ps.map prD)) = some (P0, false))]
    rfl
  have e7 : mLc (.nm 4) [4] (itSq (mO1 (attrP ix_tables) (.pl 0))) mYes (mO1 (attrP ix_name) (.pl 4)) (qE (.obj 1 [T0, P0]) t p Hu none none none) = .ok (.lst (sl ((byN tl).map (·.name)))) true (qE (.obj 1 [T0, P0]) t p Hu none none none) := by
    have := ev_lcA (env := qE (.obj 1 [T0, P0]) t p Hu none none none) (me := mO1 (attrP ix_name) (.pl 4)) (mi := itSq (mO1 (attrP ix_tables) (.pl 0))) (as := byN tl) (g := mkT) (f := fun t => .str t.name) (i := 4) (e1 := qE (.obj 1 [T0, P0]) t p Hu none none none) rfl (fun t _ => ⟨false, rfl⟩) (by simp [qE]) (by decide)
    rw [this]
    unfold sl
    rw [List.map_map]
    rfl
  have s7 : mFld 0 ix_names (mO1 tupleP (.ex (mLc (.nm 4) [4] (itSq (mO1 (attrP ix_tables) (.pl 0))) mYes (mO1 (attrP ix_name) (.pl 4))))) (qE (.obj 1 [T0, P0]) t p Hu none none none) = .nx (qE (qryD tl ps) t p Hu none none none) := by
    unfold mFld bindS
    rw [ev_x e7 (rfl : tupleP (.lst (sl ((byN tl).map (·.name)))) = some (N0, false))]
    rfl
  refine mk_nx (e := qE (qryD tl ps) t p Hu none none none) ?_
  exact (ev_seq (ev_ifN t1)).trans ((ev_seq s2).trans ((ev_seq (ev_ifN ((ev_orF t3).trans t4))).trans ((ev_seq s5).trans ((ev_seq s6).trans s7))))
theorem law_query_ok {tl : List Tb} {ps : List (Str × Str)} {most : Nat} (h : PlainOk tl ps most) (hm : most ≤ 8) : c__law_query [plainD tl ps] = .ok (qryD tl ps) true none := by
  let E0 : EV := [some (plainD tl ps, .s), none, none, none, none]
  have e1 : mLc (.tp [.nm 1, .nm 2, .nm 3, .nm 4]) [1, 2, 3, 4] (itSq (mO2 dgetP (.pl 0) (.ex (mC (.str "tables"))))) mYes (mMake c_Table___init__ 0 [mV 1, mV 2, mV 3, mV 4] []) E0 = .ok (.lst (tl.map mkT)) true E0 :=
    ev_lcG (g := tbT) (f := mkT) (e1 := E0) (e0 := E0) rfl rfl fun t ht =>
      ⟨[some (plainD tl ps, .s), some (.str t.name, .s), some (.lst (sl t.own), .s), some (.lst (sl t.un), .s), some (.str t.kind, .s)], true, [some (plainD tl ps, .s), some (.str t.name, .s), some (.lst (sl t.own), .s), some (.lst (sl t.un), .s), some (.str t.kind, .s)], rfl,
        ev_make (dds := []) (ev_cons (o := false) (ev_vs rfl) (ev_cons (o := false) (ev_vs rfl) (ev_cons (o := false) (ev_vs rfl) (ev_cons (o := false) (ev_vs rfl) ev_nil)))) (init_ok (h.ok t ht).nm.1 (h.ok t ht).cols (h.ok t ht).keys (h.ok t ht).kind (.inl rfl) (.inl rfl)), rfl⟩
  exact mk_rt (e := E0) (ev_ret (ev_make (dds := []) (ev_cons e1 (ev_cons (o := false) rfl ev_nil)) (query_init h hm)))
end K39

set_option Elab.async false
set_option linter.all false
set_option maxRecDepth 100000
set_option maxHeartbeats 1000000
/-! K39M8: trees of names. -/
namespace K39
open PySem DL
theorem sort_perm_eq {a b : List Str} (h : a.Perm b) : sSort a = sSort b :=
  List.Perm.eq_of_pairwise (fun a b _ _ => sLe_anti) (sSort_sorted a) (sSort_sorted b) ((sSort_perm a).trans (h.trans (sSort_perm b).symm))
inductive Tr where
  | leaf (s : Str) | nd (b : Bool) (l r : Tr)
def nodeD : Bool → D → D → D
  | true, a, b => .tup [a, b]
  | false, a, b => .lst [a, b]
def Tr.D : Tr → D
  | .leaf s => .str s
  | .nd b l r => nodeD b l.D r.D
def Tr.leaves : Tr → List Str
  | .leaf s => [s]
  | .nd _ l r => l.leaves ++ r.leaves
def Tr.dep : Tr → Nat
  | .leaf _ => 0
  | .nd _ l r => 1 + max l.dep r.dep
def Tr.steps : Tr → List (List Str)
  | .leaf _ => []
  | .nd _ l r => l.steps ++ r.steps ++ [sSort (l.leaves ++ r.leaves)]
def Tr.isLeaf : Tr → Bool
  | .leaf _ => true
  | .nd _ _ _ => false
def Tr.chained : Tr → Bool
  | .leaf _ => true
  | .nd _ l r => r.isLeaf && l.chained
theorem Tr.dep_lt : ∀ t : Tr, t.dep < t.leaves.length
  | .leaf _ => by simp [Tr.dep, Tr.leaves]
  | .nd _ l r => by
    have h1 := l.dep_lt
    have h2 := r.dep_lt
    simp only [Tr.dep, Tr.leaves, List.length_append]
    omega
theorem Tr.steps_len : ∀ t : Tr, t.steps.length + 1 = t.leaves.length
  | .leaf _ => by simp [Tr.steps, Tr.leaves]
  | .nd _ l r => by
    have h1 := l.steps_len
    have h2 := r.steps_len
    simp only [Tr.steps, Tr.leaves, List.length_append, List.length_cons, List.length_nil]
    omega
theorem isStr_leaf (s : Str) : isiP anc [0, 1] [.str] (.str s) = some (.bl true, false) := rfl
theorem isStr_tr : ∀ t : Tr, isiP anc [0, 1] [.str] t.D = some (.bl t.isLeaf, false)
  | .leaf _ => rfl
  | .nd true _ _ => rfl
  | .nd false _ _ => rfl
theorem node_ix0 : ∀ (b : Bool) (x y : D), ixP (nodeD b x y) (.int 0) = some (x, false)
  | true, _, _ => rfl
  | false, _, _ => rfl
theorem node_ix1 : ∀ (b : Bool) (x y : D), ixP (nodeD b x y) (.int 1) = some (y, false)
  | true, _, _ => rfl
  | false, _, _ => rfl
theorem node_listed : ∀ (b : Bool) (x y : D), c_is_listed [nodeD b x y] = .ok (.bl true) false none
  | true, _, _ => rfl
  | false, _, _ => rfl
theorem node_len : ∀ (b : Bool) (x y : D), lenP (nodeD b x y) = some (.int 2, false)
  | true, _, _ => rfl
  | false, _, _ => rfl
theorem node_items : ∀ (b : Bool) (x y : D) (e : EV), e[0]? = some (some (nodeD b x y, .s)) → itSq (mV 0) e = .ok [x, y] e
  | true, x, y, e, h => by
    unfold itSq bindI
    rw [ev_vs h]
    rfl
  | false, x, y, e, h => by
    unfold itSq bindI
    rw [ev_vs h]
    rfl
theorem in_none (xs ys : List Str) : inDP false .non (.lst [.lst (sl xs), .lst (sl ys)]) = some (.bl false, false) := by
  unfold inDP
  have : okDep (.lst [.lst (sl xs), .lst (sl ys)]) = true := by
    have d : depD (.lst [.lst (sl xs), .lst (sl ys)]) = some 2 := by
      simp [depD, depL, depStrs]
    unfold okDep
    rw [d]
    rfl
  simp only [this]
  simp [okDep, depD, eqD]
theorem names_in_ok : ∀ (n : Nat) (t : Tr), t.dep < n → t.leaves.length ≤ 1000 → c_names_in n [t.D] = .ok (.lst (sl t.leaves)) true none
  | 0, t, h, _ => by omega
  | n + 1, .leaf s, h, _ => rfl
  | n + 1, .nd b l r, h, hl => by
    simp only [Tr.dep] at h
    simp only [Tr.leaves, List.length_append] at hl
    have hL := names_in_ok n l (by omega) (by omega)
    have hR := names_in_ok n r (by omega) (by omega)
    let v := nodeD b l.D r.D
    let E (z : Sl) : EV := [some (v, .s), z, none]
    have t1 : mT (mO1 (isiP anc [0, 1] [.str]) (.pl 0)) (E none) = .ok false (E none) := ev_T (o := false) (ev_p (t := .s) rfl (isStr_tr (.nd b l r)))
    have t2 : mNotT (mT (mCall c_is_listed [mV 0] [])) (E none) = .ok false (E none) := ev_not (ev_T (ev_call (dds := []) (ev_cons (o := false) (ev_vs rfl) ev_nil) (node_listed b _ _)))
    have t3 : mT (mO2 neP (.ex (mO1 lenP (.pl 0))) (.ex (mC (.int 2)))) (E none) = .ok false (E none) := ev_T (o := false) (ev_xx (ev_p (t := .s) rfl (node_len b _ _)) (o2 := false) rfl rfl)
    let L : D := .lst [.lst (sl l.leaves), .lst (sl r.leaves)]
    have e4 : mLc (.nm 2) [2] (itSq (mV 0)) mYes (mCall (c_names_in n) [mV 2] []) (E none) = .ok L true (E none) :=
      ev_lcA (as := [l, r]) (g := Tr.D) (f := fun t => .lst (sl t.leaves)) (i := 2) (e1 := E none) (node_items b _ _ _ rfl) (fun t ht => by
        simp only [List.mem_cons, List.not_mem_nil, or_false] at ht
        rcases ht with rfl | rfl
        · exact ⟨true, ev_call (dds := []) (ev_cons (o := false) (ev_vs rfl) ev_nil) hL⟩
        · exact ⟨true, ev_call (dds := []) (ev_cons (o := false) (ev_vs rfl) ev_nil) hR⟩) (by simp [E]) (by decide)
    have s4 : mSet 1 (mLc (.nm 2) [2] (itSq (mV 0)) mYes (mCall (c_names_in n) [mV 2] [])) (E none) = .nx (E (some (L, .o))) := ev_set (o := true) e4 rfl
    have t5 : mT (mO2 (inDP false) (.ex (mC .non)) (.pl 1)) (E (some (L, .o))) = .ok false (E (some (L, .o))) := ev_T (o := false) (ev_xp (t := .o) (o1 := false) (x := .non) rfl rfl (in_none _ _))
    have e5 : mIf (mT (mO2 (inDP false) (.ex (mC .non)) (.pl 1))) (mC .non) (mO2 addP (.ex (mO2 ixP (.pl 1) (.ex (mC (.int 0))))) (.ex (mO2 ixP (.pl 1) (.ex (mC (.int 1)))))) (E (some (L, .o))) = .ok (.lst (sl (l.leaves ++ r.leaves))) true (E (some (L, .o))) := by
      rw [ev_ifE t5]
      refine ev_xx (o1 := false) (o2 := false) (x := .lst (sl l.leaves)) (y := .lst (sl r.leaves)) rfl rfl ?_
      rw [addP_lst (by rw [slen, slen]; omega)]
      simp [sl]
    exact mk_rt (b := b_names_in (c_names_in n)) (e := E (some (L, .o))) ((ev_seq (ev_ifN t1)).trans ((ev_seq (ev_ifN ((ev_orF t2).trans t3))).trans ((ev_seq s4).trans (ev_ret e5))))
def tupS (ss : List Str) : D := .tup (sl ss)
theorem lots_of_ok : ∀ (n : Nat) (t : Tr), t.dep < n → t.leaves.length ≤ 10 → c_lots_of n [t.D] = .ok (.lst (t.steps.map tupS)) true none
  | 0, t, h, _ => by omega
  | n + 1, .leaf s, h, _ => rfl
  | n + 1, .nd b l r, h, hl => by
    have hd : (Tr.nd b l r).dep < 10 := by have := (Tr.nd b l r).dep_lt; omega
    have hN := names_in_ok 10 (.nd b l r) hd (by omega)
    simp only [Tr.dep] at h
    simp only [Tr.leaves, List.length_append] at hl
    have hL := lots_of_ok n l (by omega) (by omega)
    have hR := lots_of_ok n r (by omega) (by omega)
    have h1 := l.steps_len
    have h2 := r.steps_len
    let v := nodeD b l.D r.D
    let E : EV := [some (v, .s)]
    have t1 : mT (mO1 (isiP anc [0, 1] [.str]) (.pl 0)) E = .ok false E := ev_T (o := false) (ev_p (t := .s) rfl (isStr_tr (.nd b l r)))
    have i0 : mO2 ixP (.pl 0) (.ex (mC (.int 0))) E = .ok l.D false E := ev_px (t := .s) (t' := .s) (x0 := v) rfl (o2 := false) (y := .int 0) rfl rfl (node_ix0 b _ _)
    have i1 : mO2 ixP (.pl 0) (.ex (mC (.int 1))) E = .ok r.D false E := ev_px (t := .s) (t' := .s) (x0 := v) rfl (o2 := false) (y := .int 1) rfl rfl (node_ix1 b _ _)
    have a1 : addP (.lst (l.steps.map tupS)) (.lst (r.steps.map tupS)) = some (.lst ((l.steps ++ r.steps).map tupS), true) := by
      rw [addP_lst (by rw [List.length_map, List.length_map]; omega), List.map_append]
    have a2 : addP (.lst ((l.steps ++ r.steps).map tupS)) (.lst [tupS (sSort (l.leaves ++ r.leaves))]) = some (.lst ((Tr.nd b l r).steps.map tupS), true) := by
      rw [addP_lst (by rw [List.length_map, List.length_append]; simp; omega)]
      simp [Tr.steps]
    have en : mO1 tupleP (.ex (mO1 sortQ (.ex (mCall (c_names_in 10) [mV 0] [])))) E = .ok (tupS (sSort (l.leaves ++ r.leaves))) false E :=
      ev_x (ev_x (o := true) (ev_call (dds := []) (ev_cons (o := false) (ev_vs rfl) ev_nil) hN) (sortQ_s (.inl rfl) (by simp only [Tr.leaves, List.length_append]; omega))) rfl
    exact mk_rt (b := b_lots_of (c_lots_of n)) (e := E) ((ev_seq (ev_ifN t1)).trans (ev_ret (ev_xx (ev_xx (ev_call (dds := []) (ev_cons i0 ev_nil) hL) (ev_call (dds := []) (ev_cons i1 ev_nil) hR) a1) (ev_lst (ev_cons en ev_nil)) a2)))
theorem is_chained_ok : ∀ (n : Nat) (t : Tr), t.dep < n → c_is_chained n [t.D] = .ok (.bl t.chained) false none
  | 0, t, h => by omega
  | n + 1, .leaf s, h => rfl
  | n + 1, .nd b l r, h => by
    simp only [Tr.dep] at h
    have hL := is_chained_ok n l (by omega)
    let v := nodeD b l.D r.D
    let E : EV := [some (v, .s)]
    have i0 : mO2 ixP (.pl 0) (.ex (mC (.int 0))) E = .ok l.D false E := ev_px (t := .s) (t' := .s) (x0 := v) rfl (o2 := false) (y := .int 0) rfl rfl (node_ix0 b _ _)
    have i1 : mO2 ixP (.pl 0) (.ex (mC (.int 1))) E = .ok r.D false E := ev_px (t := .s) (t' := .s) (x0 := v) rfl (o2 := false) (y := .int 1) rfl rfl (node_ix1 b _ _)
    refine mk_rt (b := b_is_chained (c_is_chained n)) (e := E) (ev_ret ?_)
    refine ev_orV (k := false) (o1 := false) (ev_p (t := .s) rfl (isStr_tr (.nd b l r))) (fun _ => ?_) (fun h => by cases h)
    show _ = RE.ok (.bl (r.isLeaf && l.chained)) false E
    refine ev_andV (k := r.isLeaf) (o1 := false) (ev_x i1 (isStr_tr r)) (fun hk => ?_) (fun hk => ?_)
    · rw [hk, Bool.true_and]
      exact ev_call (dds := []) (ev_cons i0 ev_nil) hL
    · rw [hk, Bool.false_and]
      exact ⟨rfl, rfl, rfl⟩
theorem law_is_chain_ok : ∀ (n : Nat) (t : Tr), t.dep < n → c__law_is_chain n [t.D] = .ok (.bl t.chained) false none
  | 0, t, h => by omega
  | n + 1, .leaf s, h => rfl
  | n + 1, .nd b l r, h => by
    simp only [Tr.dep] at h
    have hL := law_is_chain_ok n l (by omega)
    let v := nodeD b l.D r.D
    let E : EV := [some (v, .s)]
    have i0 : mO2 ixP (.pl 0) (.ex (mC (.int 0))) E = .ok l.D false E := ev_px (t := .s) (t' := .s) (x0 := v) rfl (o2 := false) (y := .int 0) rfl rfl (node_ix0 b _ _)
    have i1 : mO2 ixP (.pl 0) (.ex (mC (.int 1))) E = .ok r.D false E := ev_px (t := .s) (t' := .s) (x0 := v) rfl (o2 := false) (y := .int 1) rfl rfl (node_ix1 b _ _)
    refine mk_rt (b := b__law_is_chain (c__law_is_chain n)) (e := E) (ev_ret ?_)
    refine ev_orV (k := false) (o1 := false) (ev_p (t := .s) rfl (isStr_tr (.nd b l r))) (fun _ => ?_) (fun h => by cases h)
    show _ = RE.ok (.bl (r.isLeaf && l.chained)) false E
    refine ev_andV (k := r.isLeaf) (o1 := false) (ev_x i1 (isStr_tr r)) (fun hk => ?_) (fun hk => ?_)
    · rw [hk, Bool.true_and]
      exact ev_call (dds := []) (ev_cons i0 ev_nil) hL
    · rw [hk, Bool.false_and]
      exact ⟨rfl, rfl, rfl⟩
theorem sort_len (ss : List Str) : (sSort ss).length = ss.length := (sSort_perm ss).length_eq
theorem law_in_ok : ∀ (n : Nat) (t : Tr), t.dep < n → t.leaves.length ≤ 10 → c__law_in n [t.D] = .ok (tupS (sSort t.leaves)) false none
  | 0, t, h, _ => by omega
  | n + 1, .leaf s, h, _ => rfl
  | n + 1, .nd b l r, h, hl => by
    simp only [Tr.dep] at h
    simp only [Tr.leaves, List.length_append] at hl
    have hL := law_in_ok n l (by omega) (by omega)
    have hR := law_in_ok n r (by omega) (by omega)
    let v := nodeD b l.D r.D
    let E : EV := [some (v, .s)]
    have t1 : mT (mO1 (isiP anc [0, 1] [.str]) (.pl 0)) E = .ok false E := ev_T (o := false) (ev_p (t := .s) rfl (isStr_tr (.nd b l r)))
    have i0 : mO2 ixP (.pl 0) (.ex (mC (.int 0))) E = .ok l.D false E := ev_px (t := .s) (t' := .s) (x0 := v) rfl (o2 := false) (y := .int 0) rfl rfl (node_ix0 b _ _)
    have i1 : mO2 ixP (.pl 0) (.ex (mC (.int 1))) E = .ok r.D false E := ev_px (t := .s) (t' := .s) (x0 := v) rfl (o2 := false) (y := .int 1) rfl rfl (node_ix1 b _ _)
    have a1 : addP (tupS (sSort l.leaves)) (tupS (sSort r.leaves)) = some (.tup (sl (sSort l.leaves ++ sSort r.leaves)), false) := by
      show (match decide ((sl (sSort l.leaves)).length + (sl (sSort r.leaves)).length ≤ sizeLine) with | true => some (D.tup (sl (sSort l.leaves) ++ sl (sSort r.leaves)), false) | false => none) = _
      rw [decide_eq_true (by rw [slen, slen, sort_len, sort_len, sizeLine_eq]; omega)]
      simp [sl]
    have hs : sSort (sSort l.leaves ++ sSort r.leaves) = sSort (l.leaves ++ r.leaves) := sort_perm_eq ((sSort_perm _).append (sSort_perm _))
    have a2 : sortQ (.tup (sl (sSort l.leaves ++ sSort r.leaves))) = some (.lst (sl (sSort (l.leaves ++ r.leaves))), true) := by
      rw [sortQ_s (.inr rfl) (by rw [List.length_append, sort_len, sort_len]; omega), hs]
    refine mk_rt (b := b__law_in (c__law_in n)) (e := E) (ev_ret ?_)
    refine (ev_ifE t1).trans ?_
    exact ev_x (ev_x (ev_xx (ev_call (dds := []) (ev_cons i0 ev_nil) hL) (ev_call (dds := []) (ev_cons i1 ev_nil) hR) a1) a2) rfl
theorem law_steps_ok : ∀ (n : Nat) (t : Tr), t.dep < n → t.leaves.length ≤ 10 → c__law_steps n [t.D] = .ok (.lst (t.steps.map tupS)) true none
  | 0, t, h, _ => by omega
  | n + 1, .leaf s, h, _ => rfl
  | n + 1, .nd b l r, h, hl => by
    have hd : (Tr.nd b l r).dep < 10 := by have := (Tr.nd b l r).dep_lt; omega
    have hN := law_in_ok 10 (.nd b l r) hd hl
    simp only [Tr.dep] at h
    simp only [Tr.leaves, List.length_append] at hl
    have hL := law_steps_ok n l (by omega) (by omega)
    have hR := law_steps_ok n r (by omega) (by omega)
    have h1 := l.steps_len
    have h2 := r.steps_len
    let v := nodeD b l.D r.D
    let E : EV := [some (v, .s)]
    have t1 : mT (mO1 (isiP anc [0, 1] [.str]) (.pl 0)) E = .ok false E := ev_T (o := false) (ev_p (t := .s) rfl (isStr_tr (.nd b l r)))
    have i0 : mO2 ixP (.pl 0) (.ex (mC (.int 0))) E = .ok l.D false E := ev_px (t := .s) (t' := .s) (x0 := v) rfl (o2 := false) (y := .int 0) rfl rfl (node_ix0 b _ _)
    have i1 : mO2 ixP (.pl 0) (.ex (mC (.int 1))) E = .ok r.D false E := ev_px (t := .s) (t' := .s) (x0 := v) rfl (o2 := false) (y := .int 1) rfl rfl (node_ix1 b _ _)
    have a1 : addP (.lst (l.steps.map tupS)) (.lst (r.steps.map tupS)) = some (.lst ((l.steps ++ r.steps).map tupS), true) := by
      rw [addP_lst (by rw [List.length_map, List.length_map]; omega), List.map_append]
    have a2 : addP (.lst ((l.steps ++ r.steps).map tupS)) (.lst [tupS (sSort (l.leaves ++ r.leaves))]) = some (.lst ((Tr.nd b l r).steps.map tupS), true) := by
      rw [addP_lst (by rw [List.length_map, List.length_append]; simp; omega)]
      simp [Tr.steps]
    refine mk_rt (b := b__law_steps (c__law_steps n)) (e := E) (ev_ret ?_)
    refine (ev_ifE t1).trans ?_
    exact ev_xx (ev_xx (ev_call (dds := []) (ev_cons i0 ev_nil) hL) (ev_call (dds := []) (ev_cons i1 ev_nil) hR) a1) (ev_lst (ev_cons (ev_call (dds := []) (ev_cons (o := false) (ev_vs rfl) ev_nil) hN) ev_nil)) a2
end K39

set_option Elab.async false
set_option linter.all false
set_option maxRecDepth 100000
set_option maxHeartbeats 1000000
/-! K39M9: a tree drawn; what the orders' checks answer. -/
namespace K39
open PySem DL
/-- the slots of _law_tree -/
def trE (pen n : D) (left : List D) (a b : Sl) : EV := [some (pen, .p), some (n, .s), some (.lst left, .o), a, b]
abbrev trT' : MT := mT (mO2 (cmpP fun i j => decide (j < i)) (.ex (mO1 lenP (.pl 2))) (.ex (mC (.int 1))))
abbrev trB : MS := mSeq (mSet 3 (mMt 2 popAtP [mCallIO c__law_draw 0 [mO1 lenP (.pl 2)] []]))
    (mSeq (mSet 4 (mMt 2 popAtP [mCallIO c__law_draw 0 [mO1 lenP (.pl 2)] []]))
    (mExpr (mMt 2 appendP [mCallIO c__law_pick 0 [mLst [mTup [mV 3, mV 4], mLst [mV 4, mV 3]]] []])))
theorem tr_pop {T : Nat} {pen n : D} {left : List Tr} {a b : Sl} (hp : PenOk T pen) (hT : T ≤ 1000000) (hl : 1 ≤ left.length) (hl2 : left.length ≤ 1000) :
    ∃ (t : Tr) (rest : List Tr) (pen' : D), mMt 2 popAtP [mCallIO c__law_draw 0 [mO1 lenP (.pl 2)] []] (trE pen n (left.map Tr.D) a b) = .ok t.D false (trE pen' n (rest.map Tr.D) a b) ∧ (t :: rest).Perm left ∧ PenOk (T + 1) pen' := by
  obtain ⟨r, pen1, e1, r0, r1, hp1⟩ := draw_ok (m := (left.length : Int)) hp hT (by omega) (by omega)
  have hlp : lenP (.lst (left.map Tr.D)) = some (.int left.length, false) := by
    show some (D.int (left.map Tr.D).length, false) = _
    rw [List.length_map]
  obtain ⟨hr, ep⟩ := popAt_d (ds := left.map Tr.D) r0 (by rw [List.length_map]; exact r1) (by rw [List.length_map]; omega)
  have hr' : r.toNat < left.length := by omega
  refine ⟨left[r.toNat], left.eraseIdx r.toNat, pen1, ?_, perm_eraseG (List.getElem?_eq_getElem hr'), hp1⟩
  refine ev_mt (t := .o) (t0 := .o) (xs := left.map Tr.D) (d := .lst (left.map Tr.D)) rfl (by decide) (ev_cons (ev_callIO (t := .p) (dds := []) (x := pen) rfl (ev_cons (ev_p (t := .o) rfl hlp) ev_nil) rfl (by decide) e1) ev_nil) rfl (by decide) (d' := .lst ((left.eraseIdx r.toNat).map Tr.D)) ?_
  rw [ep, erase_mapG]
  simp
theorem tree_loop {n : D} : ∀ (k fuel : Nat) (left : List Tr) (T : Nat) (pen : D) (a b : Sl), left.length = k → 1 ≤ k → k ≤ fuel → k ≤ 100 → freeE [a] 0 = true → freeE [b] 0 = true → PenOk T pen → T + 3 * k ≤ 1000000 →
    ∃ (t : Tr) (pen' : D) (a' b' : Sl), whE trT' trB fuel (trE pen n (left.map Tr.D) a b) = .nx (trE pen' n [t.D] a' b') ∧ t.leaves.Perm (left.flatMap Tr.leaves) ∧ PenOk (T + 3 * k) pen'
  | k, 0, left, T, pen, a, b, hk, h1, h2, _, _, _, _, _ => by omega
  | k, fuel + 1, left, T, pen, a, b, hk, h1, h2, h3, fa, fb, hp, hT => by
    have hlp : lenP (.lst (left.map Tr.D)) = some (.int left.length, false) := by
      show some (D.int (left.map Tr.D).length, false) = _
      rw [List.length_map]
    have et : trT' (trE pen n (left.map Tr.D) a b) = .ok (decide ((1 : Int) < left.length)) (trE pen n (left.map Tr.D) a b) :=
      ev_T (o := false) (ev_xx (ev_p (t := .o) rfl hlp) (o2 := false) rfl rfl)
    unfold whE
    rw [et]
    by_cases hk1 : k = 1
    · rw [decide_eq_false (by omega)]
      match left, hk with
      | [t], _ => exact ⟨t, pen, a, b, rfl, by simp, hp.mono (by omega)⟩
      | [], hk => simp at hk; omega
      | _ :: _ :: _, hk => simp at hk; omega
    · rw [decide_eq_true (by omega)]
      obtain ⟨x, l1, pen1, e1, p1, hp1⟩ := tr_pop (n := n) (a := a) (b := b) (left := left) hp (by omega) (by omega) (by omega)
      have len1 : l1.length + 1 = left.length := by have := p1.length_eq; simpa using this
      obtain ⟨y, l2, pen2, e2, p2, hp2⟩ := tr_pop (n := n) (a := some (x.D, .s)) (b := b) (left := l1) hp1 (by omega) (by omega) (by omega)
      have len2 : l2.length + 1 = l1.length := by have := p2.length_eq; simpa using this
      obtain ⟨z, pen3, e3, hz, hp3⟩ := pick_ok (xs := [.tup [x.D, y.D], .lst [y.D, x.D]]) hp2 (by omega) (by simp) (by simp)
      have ⟨t, ht, hlv⟩ : ∃ t : Tr, z = t.D ∧ t.leaves.Perm (x.leaves ++ y.leaves) := by
        simp only [List.mem_cons, List.not_mem_nil, or_false] at hz
        rcases hz with rfl | rfl
        · exact ⟨.nd true x y, rfl, List.Perm.refl _⟩
        · exact ⟨.nd false y x, rfl, List.perm_append_comm⟩
      subst ht
      have s1 : mSet 3 (mMt 2 popAtP [mCallIO c__law_draw 0 [mO1 lenP (.pl 2)] []]) (trE pen n (left.map Tr.D) a b) = .nx (trE pen1 n (l1.map Tr.D) (some (x.D, .s)) b) := ev_set (o := false) e1 fa
      have s2 : mSet 4 (mMt 2 popAtP [mCallIO c__law_draw 0 [mO1 lenP (.pl 2)] []]) (trE pen1 n (l1.map Tr.D) (some (x.D, .s)) b) = .nx (trE pen2 n (l2.map Tr.D) (some (x.D, .s)) (some (y.D, .s))) := ev_set (o := false) e2 fb
      have em : mLst [mTup [mV 3, mV 4], mLst [mV 4, mV 3]] (trE pen2 n (l2.map Tr.D) (some (x.D, .s)) (some (y.D, .s))) = .ok (.lst [.tup [x.D, y.D], .lst [y.D, x.D]]) true (trE pen2 n (l2.map Tr.D) (some (x.D, .s)) (some (y.D, .s))) := rfl
      have s3 : mExpr (mMt 2 appendP [mCallIO c__law_pick 0 [mLst [mTup [mV 3, mV 4], mLst [mV 4, mV 3]]] []]) (trE pen2 n (l2.map Tr.D) (some (x.D, .s)) (some (y.D, .s))) = .nx (trE pen3 n ((l2 ++ [t]).map Tr.D) (some (x.D, .s)) (some (y.D, .s))) := by
        refine ev_expr (d := .non) (o := false) ?_
        refine ev_mt (t := .o) (t0 := .o) (xs := l2.map Tr.D) (d := .lst (l2.map Tr.D)) (x := .non) (d' := .lst ((l2 ++ [t]).map Tr.D)) rfl (by decide) (ev_cons (ev_callIO (t := .p) (dds := []) (x := pen2) rfl (ev_cons em ev_nil) rfl (by decide) e3) ev_nil) rfl (by decide) ?_
        rw [appendP_lst (by rw [List.length_map]; omega), List.map_append]
        rfl
      obtain ⟨t', pen4, a', b', e4, hperm, hp4⟩ := tree_loop (n := n) (k - 1) fuel (l2 ++ [t]) (T + 3) pen3 (some (x.D, .s)) (some (y.D, .s)) (by rw [List.length_append]; simp; omega) (by omega) (by omega) (by omega) rfl rfl (hp3.mono (by omega)) (by omega)
      refine ⟨t', pen4, a', b', ?_, hperm.trans ?_, hp4.mono (by omega)⟩
      · show (match trB (trE pen n (left.map Tr.D) a b) with
          | .nx e' => whE trT' trB fuel e'
          | .ct e' => whE trT' trB fuel e'
          | .bk e' => .nx e'
          | .rt d o e' => .rt d o e'
          | .exc c fs e' => .exc c fs e'
          | .bad => .bad) = _
        have hB : trB (trE pen n (left.map Tr.D) a b) = .nx (trE pen3 n ((l2 ++ [t]).map Tr.D) (some (x.D, .s)) (some (y.D, .s))) := (ev_seq s1).trans ((ev_seq s2).trans s3)
        rw [hB]
        exact e4
      · have q1 : (left.flatMap Tr.leaves).Perm (x.leaves ++ (y.leaves ++ l2.flatMap Tr.leaves)) := by
          have h1 := (p1.symm).flatMap_right Tr.leaves
          have h2 := (p2.symm).flatMap_right Tr.leaves
          exact h1.trans (by rw [List.flatMap_cons]; exact List.Perm.append_left _ (h2.trans (by rw [List.flatMap_cons])))
        rw [List.flatMap_append]
        have q2 : ([t].flatMap Tr.leaves) = t.leaves := by simp
        rw [q2]
        refine (List.perm_append_comm.trans (hlv.append_right _)).trans ?_
        rw [List.append_assoc]
        exact q1.symm
theorem law_tree_ok {T : Nat} {pen : D} {ns : List Str} (h : PenOk T pen) (hT : T + 300 ≤ 1000000) (h1 : 1 ≤ ns.length) (h2 : ns.length ≤ 60) : ∃ (t : Tr) (pen' : D), c__law_tree [pen, .lst (sl ns)] = .ok t.D false (some pen') ∧ t.leaves.Perm ns ∧ PenOk (T + 300) pen' := by
  obtain ⟨t, pen', a', b', e, hp, hpen⟩ := tree_loop (n := .lst (sl ns)) ns.length 64 (ns.map .leaf) T pen none none (by rw [List.length_map]) h1 (by omega) (by omega) rfl rfl h (by omega)
  have hm : (ns.map Tr.leaf).map Tr.D = sl ns := by
    rw [List.map_map]; rfl
  have hf : (ns.map Tr.leaf).flatMap Tr.leaves = ns := by
    rw [List.flatMap_map]
    show ns.flatMap (fun s => [s]) = ns
    simp
  rw [hm] at e
  rw [hf] at hp
  have s1 : mSet 2 (mO1 listQ (.pl 1)) (startE 5 true [pen, .lst (sl ns)]) = .nx (trE pen (.lst (sl ns)) (sl ns) none none) := rfl
  have s3 : mRet (mO2 ixP (.pl 2) (.ex (mC (.int 0)))) (trE pen' (.lst (sl ns)) [t.D] a' b') = .rt t.D false (trE pen' (.lst (sl ns)) [t.D] a' b') := rfl
  exact ⟨t, pen', mk_rt ((ev_seq s1).trans ((ev_seq e).trans s3)), hp, hpen.mono (by omega)⟩
/-! ### orders -/
theorem eqL_sl : ∀ a b : List Str, eqL (sl a) (sl b) = decide (a = b)
  | [], [] => rfl
  | [], y :: b => by simp [sl, eqL]
  | x :: a, [] => by simp [sl, eqL]
  | x :: a, y :: b => by
    have ih := eqL_sl a b
    show (x == y && eqL (sl a) (sl b)) = _
    rw [ih]
    by_cases h : x = y
    · subst h; simp
    · simp [h]
theorem eqP_sl (a b : List Str) : eqP (.lst (sl a)) (.lst (sl b)) = some (.bl (decide (a = b)), false) := by
  unfold eqP
  rw [okDepStrs, okDepStrs]
  show some (D.bl (eqL (sl a) (sl b)), false) = _
  rw [eqL_sl]
/-- what names_in answers -/
def NamesIn (v : D) : Option (List Str) → Prop
  | some ls => c_names_in 10 [v] = .ok (.lst (sl ls)) true none ∧ ls.length < 64
  | none => c_names_in 10 [v] = .ok .non false none
theorem is_order_ok {q v : D} {qn : List Str} {r : Option (List Str)} (hv : NamesIn v r) (hq : attrP ix_names q = some (.tup (sl qn), false)) (hl : qn.length < 64) : c_is_order [q, v] = .ok (.bl (match r with | some ls => decide (sSort ls = sSort qn) | none => false)) false none := by
  let E (z : Sl) : EV := [some (q, .s), some (v, .s), z]
  cases r with
  | none =>
    have s1 : mSet 2 (mCall (c_names_in 10) [mV 1] []) (E none) = .nx (E (some (.non, .s))) := ev_set (o := false) (ev_call (dds := []) (ev_cons (o := false) (ev_vs rfl) ev_nil) hv) rfl
    exact mk_rt (e := E (some (.non, .s))) ((ev_seq s1).trans (ev_ret (ev_andV (k := false) (o1 := false) (e1 := E (some (.non, .s))) rfl (fun h => by cases h) (fun _ => ⟨rfl, rfl, rfl⟩))))
  | some ls =>
    obtain ⟨h1, h2⟩ := hv
    have s1 : mSet 2 (mCall (c_names_in 10) [mV 1] []) (E none) = .nx (E (some (.lst (sl ls), .o))) := ev_set (o := true) (ev_call (dds := []) (ev_cons (o := false) (ev_vs rfl) ev_nil) h1) rfl
    exact mk_rt (e := E (some (.lst (sl ls), .o))) ((ev_seq s1).trans (ev_ret (ev_andV (k := true) (o1 := false) (e1 := E (some (.lst (sl ls), .o))) rfl (fun _ => ev_xx (ev_p (t := .o) rfl (sortQ_s (.inl rfl) h2)) (ev_x (ev_p (t := .s) rfl hq) (sortQ_s (.inr rfl) hl)) (eqP_sl _ _)) (fun h => by cases h))))
theorem need_order_ok {q v : D} {b : Bool} (h : c_is_order [q, v] = .ok (.bl b) false none) : c_need_order [q, v] = (match b with | true => .ok .non false none | false => .exc 3 [.str "order"] none) := by
  let E : EV := [some (q, .s), some (v, .s)]
  have t1 : mNotT (mT (mCall c_is_order [mV 0, mV 1] [])) E = .ok (!b) E := ev_not (ev_T (ev_call (dds := []) (ev_cons (o := false) (ev_vs rfl) (ev_cons (o := false) (ev_vs rfl) ev_nil)) h))
  cases b with
  | true => exact mk_nx (e := E) (ev_ifN t1)
  | false => exact mk_exc (e := E) ((ev_ifT t1).trans (ev_raise (o := false) (d := .str "order") rfl))
theorem need_query_ok {q : D} {b : Bool} (h : isiP anc [0, 1] [.own 1] q = some (.bl b, false)) : c_need_query [q] = (match b with | true => .ok .non false none | false => .exc 2 [.str "query"] none) := by
  let E : EV := [some (q, .s)]
  have t1 : mNotT (mT (mO1 (isiP anc [0, 1] [.own 1]) (.pl 0))) E = .ok (!b) E := ev_not (ev_T (ev_p (t := .s) rfl h))
  cases b with
  | true => exact mk_nx (e := E) (ev_ifN t1)
  | false => exact mk_exc (e := E) ((ev_ifT t1).trans (ev_raise (o := false) (d := .str "query") rfl))
section
variable {q v : D}
theorem steps_noq (h : isiP anc [0, 1] [.own 1] q = some (.bl false, false)) : c_steps_of [q, v] = .exc 2 [.str "query"] none := by
  let E : EV := [some (q, .s), some (v, .s)]
  exact mk_exc (e := E) (ev_seqX (ev_exprX (ev_callX (dds := []) (ev_cons (o := false) (ev_vs rfl) ev_nil) (need_query_ok h))))
theorem chain_noq (h : isiP anc [0, 1] [.own 1] q = some (.bl false, false)) : c_is_chain [q, v] = .exc 2 [.str "query"] none := by
  let E : EV := [some (q, .s), some (v, .s)]
  exact mk_exc (e := E) (ev_seqX (ev_exprX (ev_callX (dds := []) (ev_cons (o := false) (ev_vs rfl) ev_nil) (need_query_ok h))))
theorem steps_bad (h : isiP anc [0, 1] [.own 1] q = some (.bl true, false)) (ho : c_is_order [q, v] = .ok (.bl false) false none) : c_steps_of [q, v] = .exc 3 [.str "order"] none := by
  let E : EV := [some (q, .s), some (v, .s)]
  have s1 : mExpr (mCall c_need_query [mV 0] []) E = .nx E := ev_expr (ev_call (dds := []) (ev_cons (o := false) (ev_vs rfl) ev_nil) (need_query_ok h))
  exact mk_exc (e := E) ((ev_seq s1).trans (ev_seqX (ev_exprX (ev_callX (dds := []) (ev_cons (o := false) (ev_vs rfl) (ev_cons (o := false) (ev_vs rfl) ev_nil)) (need_order_ok ho)))))
theorem chain_bad (h : isiP anc [0, 1] [.own 1] q = some (.bl true, false)) (ho : c_is_order [q, v] = .ok (.bl false) false none) : c_is_chain [q, v] = .exc 3 [.str "order"] none := by
  let E : EV := [some (q, .s), some (v, .s)]
  have s1 : mExpr (mCall c_need_query [mV 0] []) E = .nx E := ev_expr (ev_call (dds := []) (ev_cons (o := false) (ev_vs rfl) ev_nil) (need_query_ok h))
  exact mk_exc (e := E) ((ev_seq s1).trans (ev_seqX (ev_exprX (ev_callX (dds := []) (ev_cons (o := false) (ev_vs rfl) (ev_cons (o := false) (ev_vs rfl) ev_nil)) (need_order_ok ho)))))
end
theorem isq (tl : List Tb) (ps : List (Str × Str)) : isiP anc [0, 1] [.own 1] (qryD tl ps) = some (.bl true, false) := rfl
theorem byN_names (tl : List Tb) : ((byN tl).map (·.name)).Perm (tl.map (·.name)) := (byN_perm tl).map _
/-- a tree over the query's names -/
theorem tree_order {tl : List Tb} {ps : List (Str × Str)} {t : Tr} (h : t.leaves.Perm (tl.map (·.name))) (hl : tl.length ≤ 8) : c_is_order [qryD tl ps, t.D] = .ok (.bl true) false none := by
  have hn : t.leaves.length ≤ 8 := by rw [h.length_eq, List.length_map]; exact hl
  have hd := t.dep_lt
  have := is_order_ok (q := qryD tl ps) (v := t.D) (qn := (byN tl).map (·.name)) (r := some t.leaves) ⟨names_in_ok 10 t (by omega) (by omega), by omega⟩ rfl (by rw [List.length_map, (byN_perm tl).length_eq]; omega)
  rw [this]
  have e : sSort t.leaves = sSort ((byN tl).map (·.name)) := sort_perm_eq (h.trans (byN_names tl).symm)
  simp only [e, decide_true]
theorem steps_ok {tl : List Tb} {ps : List (Str × Str)} {t : Tr} (h : t.leaves.Perm (tl.map (·.name))) (hl : tl.length ≤ 8) : c_steps_of [qryD tl ps, t.D] = .ok (.tup (t.steps.map tupS)) false none := by
  have hn : t.leaves.length ≤ 8 := by rw [h.length_eq, List.length_map]; exact hl
  have hd := t.dep_lt
  let E : EV := [some (qryD tl ps, .s), some (t.D, .s)]
  have s1 : mExpr (mCall c_need_query [mV 0] []) E = .nx E := ev_expr (ev_call (dds := []) (ev_cons (o := false) (ev_vs rfl) ev_nil) (need_query_ok (isq tl ps)))
  have s2 : mExpr (mCall c_need_order [mV 0, mV 1] []) E = .nx E := ev_expr (ev_call (dds := []) (ev_cons (o := false) (ev_vs rfl) (ev_cons (o := false) (ev_vs rfl) ev_nil)) (need_order_ok (tree_order h hl)))
  exact mk_rt (e := E) ((ev_seq s1).trans ((ev_seq s2).trans (ev_ret (ev_x (ev_call (dds := []) (ev_cons (o := false) (ev_vs rfl) ev_nil) (lots_of_ok 10 t (by omega) (by omega))) rfl))))
theorem chain_ok {tl : List Tb} {ps : List (Str × Str)} {t : Tr} (h : t.leaves.Perm (tl.map (·.name))) (hl : tl.length ≤ 8) : c_is_chain [qryD tl ps, t.D] = .ok (.bl t.chained) false none := by
  have hn : t.leaves.length ≤ 8 := by rw [h.length_eq, List.length_map]; exact hl
  have hd := t.dep_lt
  let E : EV := [some (qryD tl ps, .s), some (t.D, .s)]
  have s1 : mExpr (mCall c_need_query [mV 0] []) E = .nx E := ev_expr (ev_call (dds := []) (ev_cons (o := false) (ev_vs rfl) ev_nil) (need_query_ok (isq tl ps)))
  have s2 : mExpr (mCall c_need_order [mV 0, mV 1] []) E = .nx E := ev_expr (ev_call (dds := []) (ev_cons (o := false) (ev_vs rfl) (ev_cons (o := false) (ev_vs rfl) ev_nil)) (need_order_ok (tree_order h hl)))
  exact mk_rt (e := E) ((ev_seq s1).trans ((ev_seq s2).trans (ev_ret (ev_call (dds := []) (ev_cons (o := false) (ev_vs rfl) ev_nil) (is_chained_ok 10 t (by omega))))))
end K39

set_option Elab.async false
set_option linter.all false
set_option maxRecDepth 100000
set_option maxHeartbeats 1000000
/-! K39M10: what is no order. -/
namespace K39
open PySem DL
/-- no order over the names ns -/
def Bad (ns : List Str) (x : D) : Prop := c_names_in 10 [x] = .ok .non false none ∨ ∃ u : Tr, x = u.D ∧ u.leaves.length ≤ 9 ∧ ¬ u.leaves.Perm ns
theorem bad_order {tl : List Tb} {ps : List (Str × Str)} {x : D} (h : Bad (tl.map (·.name)) x) (hl : tl.length ≤ 8) : c_is_order [qryD tl ps, x] = .ok (.bl false) false none := by
  have hq : ((byN tl).map (·.name)).length < 64 := by rw [List.length_map, (byN_perm tl).length_eq]; omega
  rcases h with h | ⟨u, rfl, h1, h2⟩
  · exact is_order_ok (q := qryD tl ps) (v := x) (qn := (byN tl).map (·.name)) (r := none) h rfl hq
  · have hd := u.dep_lt
    have := is_order_ok (q := qryD tl ps) (v := u.D) (qn := (byN tl).map (·.name)) (r := some u.leaves) ⟨names_in_ok 10 u (by omega) (by omega), by omega⟩ rfl hq
    rw [this]
    have e : ¬ sSort u.leaves = sSort ((byN tl).map (·.name)) := fun e =>
      h2 ((sSort_perm u.leaves).symm.trans (by rw [e]; exact (sSort_perm _).trans (byN_names tl)))
    simp only [decide_eq_false e]
theorem in_none1 (xs : List Str) : inDP false .non (.lst [.non, .lst (sl xs)]) = some (.bl true, false) := by
  unfold inDP
  have : okDep (.lst [.non, .lst (sl xs)]) = true := by
    have d : depD (.lst [.non, .lst (sl xs)]) = some 2 := by
      simp [depD, depL, depStrs]
    unfold okDep
    rw [d]
    rfl
  simp only [this]
  simp [okDep, depD, eqD]
theorem none_first {t : Tr} (hl : t.leaves.length ≤ 8) : c_names_in 10 [.tup [.non, t.D]] = .ok .non false none := by
  have hd := t.dep_lt
  have hR := names_in_ok 9 t (by omega) (by omega)
  have hL : c_names_in 9 [.non] = .ok .non false none := rfl
  let v := nodeD true .non t.D
  let E (z : Sl) : EV := [some (v, .s), z, none]
  have t1 : mT (mO1 (isiP anc [0, 1] [.str]) (.pl 0)) (E none) = .ok false (E none) := ev_T (o := false) (ev_p (t := .s) (x := v) rfl rfl)
  have t2 : mNotT (mT (mCall c_is_listed [mV 0] [])) (E none) = .ok false (E none) := ev_not (ev_T (ev_call (dds := []) (ev_cons (o := false) (ev_vs rfl) ev_nil) (node_listed true _ _)))
  have t3 : mT (mO2 neP (.ex (mO1 lenP (.pl 0))) (.ex (mC (.int 2)))) (E none) = .ok false (E none) := ev_T (o := false) (ev_xx (ev_p (t := .s) rfl (node_len true _ _)) (o2 := false) rfl rfl)
  let L : D := .lst [.non, .lst (sl t.leaves)]
  have e4 : mLc (.nm 2) [2] (itSq (mV 0)) mYes (mCall (c_names_in 9) [mV 2] []) (E none) = .ok L true (E none) := by
    have := ev_lcA (env := E none) (me := mCall (c_names_in 9) [mV 2] []) (mi := itSq (mV 0)) (as := [false, true]) (g := fun b => match b with | true => t.D | false => .non) (f := fun b => match b with | true => .lst (sl t.leaves) | false => .non) (i := 2) (e1 := E none) (node_items true _ _ _ rfl) (fun b _ => by
        cases b with
        | true => exact ⟨true, ev_call (dds := []) (ev_cons (o := false) (ev_vs rfl) ev_nil) hR⟩
        | false => exact ⟨false, ev_call (dds := []) (ev_cons (o := false) (ev_vs rfl) ev_nil) hL⟩) (by simp [E]) (by decide)
    exact this
  have s4 : mSet 1 (mLc (.nm 2) [2] (itSq (mV 0)) mYes (mCall (c_names_in 9) [mV 2] [])) (E none) = .nx (E (some (L, .o))) := ev_set (o := true) e4 rfl
  have t5 : mT (mO2 (inDP false) (.ex (mC .non)) (.pl 1)) (E (some (L, .o))) = .ok true (E (some (L, .o))) := ev_T (o := false) (ev_xp (t := .o) (o1 := false) (x := .non) rfl rfl (in_none1 _))
  have e5 : mIf (mT (mO2 (inDP false) (.ex (mC .non)) (.pl 1))) (mC .non) (mO2 addP (.ex (mO2 ixP (.pl 1) (.ex (mC (.int 0))))) (.ex (mO2 ixP (.pl 1) (.ex (mC (.int 1)))))) (E (some (L, .o))) = .ok .non false (E (some (L, .o))) := by
    rw [ev_ifE t5]
    rfl
  exact mk_rt (b := b_names_in (c_names_in 9)) (e := E (some (L, .o))) ((ev_seq (ev_ifN t1)).trans ((ev_seq (ev_ifN ((ev_orF t2).trans t3))).trans ((ev_seq s4).trans (ev_ret e5))))
def ben1 (n0 : Str) (t : D) : List D := [.non, .int 5, .str "", .str "nope", .tup [], .lst [], .tup [t], .tup [t, t, t], .dct [], .bl true, .int 0, .tup [.non, t], .tup [.str n0, .int 7]]
def ben2 (n0 n1 : Str) (t mid : D) : List D := [.str n0, .tup [t, .str n0], mid, .lst [.str n0, .str n0], .tup [.str n0, .str "nope"], .dct [(Sum.inr n0, .str n1)]]
def ben3 (n0 : Str) (t : D) : List D := [.tup [t, .str "nope"], .tup [.str "nope", t], .str (n0 ++ "x")]
def beE (pen ns t : D) (s : Sl) : EV := [some (pen, .p), some (ns, .s), some (t, .s), s]
section
variable {ns : List Str} {t : Tr}
theorem nm_empty (hw : ∀ s ∈ ns, WordOk s) : ("" : Str) ∉ ns := fun h => by
  have := (hw _ h).1.1
  exact absurd this (by decide)
theorem nm_nope (hw : ∀ s ∈ ns, WordOk s) : ("nope" : Str) ∉ ns := fun h => (hw _ h).2 rfl
theorem bad_ben1 {n0 : Str} (hw : ∀ s ∈ ns, WordOk s) (ht : t.leaves.Perm ns) (hl : ns.length ≤ 8) : ∀ x ∈ ben1 n0 t.D, Bad ns x := by
  have hlt : t.leaves.length ≤ 8 := by rw [ht.length_eq]; exact hl
  intro x hx
  simp only [ben1, List.mem_cons, List.not_mem_nil, or_false] at hx
  rcases hx with rfl | rfl | rfl | rfl | rfl | rfl | rfl | rfl | rfl | rfl | rfl | rfl | rfl
  · exact .inl rfl
  · exact .inl rfl
  · exact .inr ⟨.leaf "", rfl, by simp [Tr.leaves], fun h => nm_empty hw (h.subset List.mem_cons_self)⟩
  · exact .inr ⟨.leaf "nope", rfl, by simp [Tr.leaves], fun h => nm_nope hw (h.subset List.mem_cons_self)⟩
  · exact .inl rfl
  · exact .inl rfl
  · exact .inl rfl
  · exact .inl rfl
  · exact .inl rfl
  · exact .inl rfl
  · exact .inl rfl
  · exact .inl (none_first hlt)
  · exact .inl rfl
theorem bad_ben2 {n0 n1 : Str} {mid : D} (hw : ∀ s ∈ ns, WordOk s) (hn : ns.Nodup) (ht : t.leaves.Perm ns) (hl : ns.length ≤ 8) (h2 : 2 ≤ ns.length) (hm : Bad ns mid) : ∀ x ∈ ben2 n0 n1 t.D mid, Bad ns x := by
  have hlt : t.leaves.length = ns.length := ht.length_eq
  intro x hx
  simp only [ben2, List.mem_cons, List.not_mem_nil, or_false] at hx
  rcases hx with rfl | rfl | rfl | rfl | rfl | rfl
  · exact .inr ⟨.leaf n0, rfl, by simp [Tr.leaves], fun h => by have := h.length_eq; simp [Tr.leaves] at this; omega⟩
  · exact .inr ⟨.nd true t (.leaf n0), rfl, by simp [Tr.leaves]; omega, fun h => by have := h.length_eq; simp [Tr.leaves] at this; omega⟩
  · exact hm
  · exact .inr ⟨.nd false (.leaf n0) (.leaf n0), rfl, by simp [Tr.leaves], fun h => by have := h.nodup_iff.mpr hn; simp [Tr.leaves] at this⟩
  · exact .inr ⟨.nd true (.leaf n0) (.leaf "nope"), rfl, by simp [Tr.leaves], fun h => nm_nope hw (h.subset (by simp [Tr.leaves]))⟩
  · exact .inl rfl
theorem app_x (s : Str) : (s ++ ("x" : Str)).cps.toList = s.cps.toList ++ [120] := by
  show (s.cps ++ #[120]).toList = _
  simp
theorem bad_ben3 {n0 : Str} {r : List Str} (hw : ∀ s ∈ n0 :: r, WordOk s) (ht : t.leaves.Perm (n0 :: r)) (hl : (n0 :: r).length ≤ 8) : ∀ x ∈ ben3 n0 t.D, Bad (n0 :: r) x := by
  have hlt : t.leaves.length = (n0 :: r).length := ht.length_eq
  intro x hx
  simp only [ben3, List.mem_cons, List.not_mem_nil, or_false] at hx
  rcases hx with rfl | rfl | rfl
  · exact .inr ⟨.nd true t (.leaf "nope"), rfl, by simp only [Tr.leaves, List.length_append, List.length_cons, List.length_nil] at hlt hl ⊢; omega, fun h => nm_nope hw (h.subset (by simp [Tr.leaves]))⟩
  · exact .inr ⟨.nd true (.leaf "nope") t, rfl, by simp only [Tr.leaves, List.length_append, List.length_cons, List.length_nil] at hlt hl ⊢; omega, fun h => nm_nope hw (h.subset (by simp [Tr.leaves]))⟩
  · refine .inr ⟨.leaf (n0 ++ "x"), rfl, by simp [Tr.leaves], fun h => ?_⟩
    have hr : r = [] := by
      have := h.length_eq
      simp [Tr.leaves] at this
      exact this
    subst hr
    have : (n0 ++ "x" : Str) = n0 := by
      have := h.subset (List.mem_cons_self (a := (n0 ++ "x" : Str)) (l := []))
      simpa using this
    have h2 := congrArg (fun s : Str => s.cps.toList.length) this
    simp only [app_x] at h2
    simp at h2
end
abbrev beA : MS := mSet 3 (mLst [mC .non, mC (.int 5), mC (.str ""), mC (.str "nope"), mTup [], mLst [], mTup [mV 2], mTup [mV 2, mV 2, mV 2], mDct0, mC (.bl true), mC (.int 0), mTup [mC .non, mV 2], mTup [mO2 ixP (.pl 1) (.ex (mC (.int 0))), mC (.int 7)]])
theorem bent_s1 {pen t : D} {n0 : Str} : ∀ r : List Str, r.length ≤ 4 → beA (startE 4 true [pen, .lst (sl (n0 :: r)), t]) = .nx (beE pen (.lst (sl (n0 :: r))) t (some (.lst (ben1 n0 t), .o)))
  | [], _ => rfl
  | [_], _ => rfl
  | [_, _], _ => rfl
  | [_, _, _], _ => rfl
  | [_, _, _, _], _ => rfl
  | _ :: _ :: _ :: _ :: _ :: _, h => by simp at h
abbrev beC : MS := mIfS (mT (mO2 (cmpP fun i j => decide (j < i)) (.ex (mO1 lenP (.pl 1))) (.ex (mC (.int 1))))) (mSet 3 (mO2 addP (.pl 3) (.ex (mLst [mO2 ixP (.pl 1) (.ex (mC (.int 0))), mTup [mV 2, mO2 ixP (.pl 1) (.ex (mC (.int 0)))], mIf (mT (mO2 eqP (.ex (mO1 lenP (.pl 1))) (.ex (mC (.int 3))))) (mO1 tupleP (.ex (mSl (.pl 1) (some (mC (.int 1))) none))) (mO2 ixP (.pl 1) (.ex (mO1 negP (.ex (mC (.int 1)))))), mLst [mO2 ixP (.pl 1) (.ex (mC (.int 0))), mO2 ixP (.pl 1) (.ex (mC (.int 0)))], mTup [mO2 ixP (.pl 1) (.ex (mC (.int 0))), mC (.str "nope")], mDct [(mO2 ixP (.pl 1) (.ex (mC (.int 0))), mO2 ixP (.pl 1) (.ex (mC (.int 1))))]])))) (mNext)
theorem bent_s2 {pen : D} {t : Tr} {n0 : Str} : ∀ r : List Str, (∀ s ∈ n0 :: r, WordOk s) → (n0 :: r).Nodup → t.leaves.Perm (n0 :: r) → r.length ≤ 4 → ∃ L : List D, beC (beE pen (.lst (sl (n0 :: r))) t.D (some (.lst (ben1 n0 t.D), .o))) = .nx (beE pen (.lst (sl (n0 :: r))) t.D (some (.lst L, .o))) ∧ (∀ x ∈ L, Bad (n0 :: r) x) ∧ L.length ≤ 100
  | [], hw, hn, ht, _ => ⟨ben1 n0 t.D, rfl, bad_ben1 (n0 := n0) hw ht (by simp), by simp [ben1]⟩
  | [n1], hw, hn, ht, _ => by
    refine ⟨ben1 n0 t.D ++ ben2 n0 n1 t.D (.str n1), rfl, fun x hx => ?_, by simp [ben1, ben2]⟩
    rcases List.mem_append.mp hx with h | h
    · exact bad_ben1 (n0 := n0) hw ht (by simp) x h
    · exact bad_ben2 (mid := .str n1) hw hn ht (by simp) (by simp) (.inr ⟨.leaf n1, rfl, by simp [Tr.leaves], fun h => by have := h.length_eq; simp [Tr.leaves] at this⟩) x h
  | [n1, n2], hw, hn, ht, _ => by
    refine ⟨ben1 n0 t.D ++ ben2 n0 n1 t.D (.tup [.str n1, .str n2]), rfl, fun x hx => ?_, by simp [ben1, ben2]⟩
    rcases List.mem_append.mp hx with h | h
    · exact bad_ben1 (n0 := n0) hw ht (by simp) x h
    · exact bad_ben2 (mid := .tup [.str n1, .str n2]) hw hn ht (by simp) (by simp) (.inr ⟨.nd true (.leaf n1) (.leaf n2), rfl, by simp [Tr.leaves], fun h => by have := h.length_eq; simp [Tr.leaves] at this⟩) x h
  | [n1, n2, n3], hw, hn, ht, _ => by
    refine ⟨ben1 n0 t.D ++ ben2 n0 n1 t.D (.str n3), rfl, fun x hx => ?_, by simp [ben1, ben2]⟩
    rcases List.mem_append.mp hx with h | h
    · exact bad_ben1 (n0 := n0) hw ht (by simp) x h
    · exact bad_ben2 (mid := .str n3) hw hn ht (by simp) (by simp) (.inr ⟨.leaf n3, rfl, by simp [Tr.leaves], fun h => by have := h.length_eq; simp [Tr.leaves] at this⟩) x h
  | [n1, n2, n3, n4], hw, hn, ht, _ => by
    refine ⟨ben1 n0 t.D ++ ben2 n0 n1 t.D (.str n4), rfl, fun x hx => ?_, by simp [ben1, ben2]⟩
    rcases List.mem_append.mp hx with h | h
    · exact bad_ben1 (n0 := n0) hw ht (by simp) x h
    · exact bad_ben2 (mid := .str n4) hw hn ht (by simp) (by simp) (.inr ⟨.leaf n4, rfl, by simp [Tr.leaves], fun h => by have := h.length_eq; simp [Tr.leaves] at this⟩) x h
  | _ :: _ :: _ :: _ :: _ :: _, _, _, _, h => by simp at h
theorem bent_ok {T : Nat} {pen : D} {ns : List Str} {t : Tr} (hp : PenOk T pen) (hT : T + 1 ≤ 1000000) (hw : ∀ s ∈ ns, WordOk s) (hn : ns.Nodup) (ht : t.leaves.Perm ns) (h1 : 1 ≤ ns.length) (h5 : ns.length ≤ 5) :
    ∃ x pen', c__law_bent [pen, .lst (sl ns), t.D] = .ok x false (some pen') ∧ Bad ns x ∧ PenOk (T + 1) pen' := by
  match ns, h1 with
  | n0 :: r, _ =>
    let N : D := .lst (sl (n0 :: r))
    have s1 := bent_s1 (pen := pen) (t := t.D) (n0 := n0) r (by simp at h5; omega)
    have hb3 := bad_ben3 hw ht (by omega)
    have ix0 : ∀ e : EV, e[1]? = some (some (N, .s)) → mO2 ixP (.pl 1) (.ex (mC (.int 0))) e = .ok (.str n0) false e := fun e he =>
      ev_px (t := .s) (t' := .s) (x0 := N) he (o2 := false) (y := .int 0) rfl he (ixP_l (by decide) rfl)
    have key : ∀ L : List D, (∀ x ∈ L, Bad (n0 :: r) x) → L.length ≤ 100 → ∃ x pen', mRet (mCallIO c__law_pick 0 [mO2 addP (.pl 3) (.ex (mLst [mTup [mV 2, mC (.str "nope")], mTup [mC (.str "nope"), mV 2], mO2 addP (.ex (mO2 ixP (.pl 1) (.ex (mC (.int 0))))) (.ex (mC (.str "x")))]))] []) (beE pen N t.D (some (.lst L, .o))) = .rt x false (beE pen' N t.D (some (.lst L, .o))) ∧ Bad (n0 :: r) x ∧ PenOk (T + 1) pen' := fun L hL hl => by
      obtain ⟨x, pen1, e1, hx, hp1⟩ := pick_ok (xs := L ++ ben3 n0 t.D) hp (by omega) (by simp [ben3]) (by rw [List.length_append]; simp [ben3]; omega)
      refine ⟨x, pen1, ?_, ?_, hp1⟩
      · have ax : addP (.str n0) (.str "x") = some (.str (n0 ++ "x"), false) := by
          have hl0 := (hw n0 List.mem_cons_self).1.2.1
          show (match decide (n0.length + ("x" : Str).length ≤ sizeLine) with | true => some (D.str (n0 ++ "x"), false) | false => none) = _
          rw [decide_eq_true (by
            have : n0.length = n0.cps.toList.length := by simp [Str.length]
            rw [sizeLine_eq, this, show ("x" : Str).length = 1 from rfl]; omega)]
        have em : mLst [mTup [mV 2, mC (.str "nope")], mTup [mC (.str "nope"), mV 2], mO2 addP (.ex (mO2 ixP (.pl 1) (.ex (mC (.int 0))))) (.ex (mC (.str "x")))] (beE pen N t.D (some (.lst L, .o))) = .ok (.lst (ben3 n0 t.D)) true (beE pen N t.D (some (.lst L, .o))) :=
          ev_lst (ev_cons (d := .tup [t.D, .str "nope"]) (o := false) rfl (ev_cons (d := .tup [.str "nope", t.D]) (o := false) rfl (ev_cons (ev_xx (x := .str n0) (o1 := false) (ix0 _ rfl) (o2 := false) (y := .str "x") rfl ax) ev_nil)))
        have ea : mO2 addP (.pl 3) (.ex (mLst [mTup [mV 2, mC (.str "nope")], mTup [mC (.str "nope"), mV 2], mO2 addP (.ex (mO2 ixP (.pl 1) (.ex (mC (.int 0))))) (.ex (mC (.str "x")))])) (beE pen N t.D (some (.lst L, .o))) = .ok (.lst (L ++ ben3 n0 t.D)) true (beE pen N t.D (some (.lst L, .o))) :=
          ev_px (t := .o) (t' := .o) (x0 := .lst L) rfl em rfl (addP_lst (by simp [ben3]; omega))
        exact ev_ret (ev_callIO (t := .p) (dds := []) (x := pen) rfl (ev_cons ea ev_nil) rfl (by decide) e1)
      · rcases List.mem_append.mp hx with h | h
        · exact hL x h
        · exact hb3 x h
    have s2 := bent_s2 (pen := pen) (t := t) (n0 := n0) r hw hn ht (by simp at h5; omega)
    obtain ⟨L, e2, hL, hl⟩ := s2
    obtain ⟨x, pen', e3, hx, hp'⟩ := key L hL hl
    exact ⟨x, pen', mk_rt (b := b__law_bent) ((ev_seq s1).trans ((ev_seq e2).trans e3)), hx, hp'⟩
end K39

set_option Elab.async false
set_option linter.all false
set_option maxRecDepth 100000
set_option maxHeartbeats 1000000
/-! K39M11: all trees over three names. -/
namespace K39
open PySem DL PySem.Spec PySem.W
theorem pyL_sl : ∀ ss : List Str, pyL (sl ss) = some (ss.map .str)
  | [] => rfl
  | s :: r => by
    have ih := pyL_sl r
    show (match pyD (.str s), pyL (sl r) with
      | some p, some ps => some (p :: ps)
      | _, _ => none) = _
    rw [ih]
    rfl
theorem pyD_tupS (ss : List Str) : pyD (tupS ss) = some (.tuple (ss.map .str)) := by
  show (pyL (sl ss)).map PyData.tuple = _
  rw [pyL_sl]; rfl
theorem depth_strs : ∀ ss : List Str, PyData.depthAll (ss.map .str) = 0
  | [] => rfl
  | s :: r => by
    have ih := depth_strs r
    simp [PyData.depthAll, PyData.depth, ih]
theorem alike_strs : ∀ a b : List Str, alikeAll (a.map .str) (b.map .str) = true
  | [], _ => by simp [alikeAll]
  | _ :: _, [] => by simp [alikeAll]
  | x :: a, y :: b => by
    have ih := alike_strs a b
    simp [alikeAll, alike, ih]
theorem all_map {α : Type} {f : α → D} {p : D → Bool} {l : List α} (h : ∀ a ∈ l, p (f a) = true) : (l.map f).all p = true := by
  rw [List.all_map]
  exact List.all_eq_true.mpr h
theorem okSort_tups {L : List (List Str)} (h : ∀ s ∈ L, s ≠ []) : okSort (L.map tupS) = true := by
  have e : ∀ s, encD (tupS s) = .tuple (s.map .str) := fun s => encD_of (pyD_tupS s)
  unfold okSort
  rw [all_map (f := tupS) (l := L) fun s _ => by
      rw [pyD_tupS, e]
      simp only [PyData.depth, depth_strs]
      rfl,
    all_map (f := tupS) (l := L) fun s _ => all_map fun s' _ => by
      rw [e, e]
      simp only [alike]
      exact alike_strs s s',
    all_map (f := tupS) (l := L) fun s hs => by
      rw [e]
      cases s with
      | nil => exact absurd rfl (h [] hs)
      | cons a r => rfl]
  rfl
theorem sort_tups {L : List (List Str)} (h : ∀ s ∈ L, s ≠ []) (h0 : L ≠ []) (hl : L.length ≤ 1000) : ∃ (x : D) (r : List D), sortDP (.tup (L.map tupS)) = some (.lst (x :: r), true) ∧ ∃ s ∈ L, x = tupS s := by
  have e : sortDP (.tup (L.map tupS)) = some (.lst ((L.map tupS).mergeSort leD), true) := by
    show (match okSort (L.map tupS) && decide ((L.map tupS).length ≤ sizeLine) with | true => some (D.lst ((L.map tupS).mergeSort leD), true) | false => none) = _
    rw [okSort_tups h, decide_eq_true (by rw [List.length_map, sizeLine_eq]; omega : (L.map tupS).length ≤ sizeLine)]
    rfl
  have hp := List.mergeSort_perm (L.map tupS) leD
  cases q : (L.map tupS).mergeSort leD with
  | nil =>
    rw [q] at hp
    have := hp.length_eq
    rw [List.length_map] at this
    exact absurd (List.eq_nil_of_length_eq_zero this.symm) h0
  | cons x r =>
    rw [q] at e hp
    have hx : x ∈ L.map tupS := hp.subset List.mem_cons_self
    obtain ⟨s, hs, rfl⟩ := List.mem_map.mp hx
    exact ⟨_, r, e, s, hs, rfl⟩
theorem neP_tupS {s : List Str} (h : s ≠ []) : neP (tupS s) (.tup []) = some (.bl true, false) := by
  unfold neP tupS
  rw [okDepStrsT]
  show some (D.bl (!eqL (sl s) (sl [])), false) = _
  rw [eqL_sl, decide_eq_false h]
  rfl
/-- a lot with its length -/
def pd (k : Int) (ss : List Str) : D := .tup [.int k, tupS ss]
theorem pyD_pd (k : Int) (ss : List Str) : pyD (pd k ss) = some (.tuple [.int k, .tuple (ss.map .str)]) := by
  show (pyL [.int k, tupS ss]).map PyData.tuple = _
  unfold pyL
  rw [show pyL [tupS ss] = some [.tuple (ss.map .str)] by unfold pyL; rw [pyD_tupS]; rfl]
  rfl
theorem le_pd {k k' : Int} {a b : List Str} (h : k < k') : leD (pd k a) (pd k' b) = true := by
  rw [leD_of (pyD_pd k a) (pyD_pd k' b), dataLt_pair (by simp [alike]) (by simp only [alike]; exact alike_strs _ _)]
  have : PyData.eqv (.int k') (.int k) = false := by
    simp [PyData.eqv]; omega
  rw [this, if_neg (by decide), dataLt_int, decide_eq_false (by omega)]
  rfl
theorem le_pd1 {k : Int} {a b : Str} (h : sLe a b = true) : leD (pd k [a]) (pd k [b]) = true := by
  rw [leD_of (pyD_pd k [a]) (pyD_pd k [b]), dataLt_pair (by simp [alike]) (by simp only [alike]; exact alike_strs [b] [a])]
  have e0 : PyData.eqv (.int k) (.int k) = true := by simp [PyData.eqv]
  rw [e0, if_pos rfl]
  have e1 : dataLt (.tuple ([b].map .str)) (.tuple ([a].map .str)) = false := by
    show dataLt (.tuple [.str b]) (.tuple [.str a]) = false
    rw [dataLt_tuple, dataLt_cons (by simp [alike])]
    split
    · exact PyProof.Rows.lex_irrefl _
    · rw [dataLt_str]
      exact decide_eq_false fun h2 => by
        have h3 := sLe_iff.mp h
        exact h3 h2
  rw [e1]
  split <;> rfl
/-! ### lots -/
def loE (v : D) (a b c d : Sl) : EV := [some (v, .s), a, b, c, d]
theorem sort_lst {P : List D} (h : okSort P = true) (hs : P.Pairwise (fun a b => leD a b = true)) (hl : P.length ≤ 1000) : sortDP (.lst P) = some (.lst P, true) := by
  show (match okSort P && decide (P.length ≤ sizeLine) with | true => some (D.lst (P.mergeSort leD), true) | false => none) = _
  rw [h, decide_eq_true (by rw [sizeLine_eq]; omega : P.length ≤ sizeLine), List.mergeSort_of_pairwise hs]
  rfl
theorem okSort_pd (L : List (Int × List Str)) : okSort (L.map fun p => pd p.1 p.2) = true := by
  have e : ∀ p : Int × List Str, encD (pd p.1 p.2) = .tuple [.int p.1, .tuple (p.2.map .str)] := fun p => encD_of (pyD_pd p.1 p.2)
  unfold okSort
  rw [all_map (f := fun p : Int × List Str => pd p.1 p.2) (l := L) fun p _ => by
      rw [pyD_pd, e]
      simp only [PyData.depth, PyData.depthAll, depth_strs]
      rfl,
    all_map (f := fun p : Int × List Str => pd p.1 p.2) (l := L) fun p _ => all_map fun p' _ => by
      rw [e, e]
      simp only [alike, alikeAll, alike_strs]
      rfl,
    all_map (f := fun p : Int × List Str => pd p.1 p.2) (l := L) fun p hs => by
      rw [e]]
  rfl
theorem pw2 (a : Str) : [pd 0 [], pd 1 [a]].Pairwise (fun a b => leD a b = true) := by
  refine List.pairwise_cons.mpr ⟨fun b hb => ?_, List.pairwise_singleton _ _⟩
  obtain rfl := List.mem_singleton.mp hb
  exact le_pd (by decide)
theorem pw4 {c d : Str} (hcd : sLe c d = true) : [pd 0 [], pd 1 [c], pd 1 [d], pd 2 [c, d]].Pairwise (fun a b => leD a b = true) := by
  refine List.pairwise_cons.mpr ⟨fun x hx => ?_, List.pairwise_cons.mpr ⟨fun x hx => ?_, List.pairwise_cons.mpr ⟨fun x hx => ?_, List.pairwise_singleton _ _⟩⟩⟩
  · simp only [List.mem_cons, List.not_mem_nil, or_false] at hx
    rcases hx with rfl | rfl | rfl
    · exact le_pd (by decide)
    · exact le_pd (by decide)
    · exact le_pd (by decide)
  · simp only [List.mem_cons, List.not_mem_nil, or_false] at hx
    rcases hx with rfl | rfl
    · exact le_pd1 hcd
    · exact le_pd (by decide)
  · obtain rfl := List.mem_singleton.mp hx
    exact le_pd (by decide)
theorem lots1 (a : Str) : c__law_lots [.tup [.str a]] = .ok (.lst [tupS [a]]) true none := by
  let v : D := .tup [.str a]
  let P : List D := [pd 0 [], pd 1 [a]]
  have s1 : mSet 1 (mLst [mTup []]) (startE 5 false [v]) = .nx (loE v (some (.lst [.tup []], .o)) none none none) := rfl
  have s2 : mFor (.nm 2) (itSq (mO1 sortQ (.pl 0))) (mSet 1 (mO2 addP (.pl 1) (.ex (mLc (.nm 3) [3] (itSq (mV 1)) (mYes) (mO2 addP (.pl 3) (.ex (mTup [mV 2]))))))) (loE v (some (.lst [.tup []], .o)) none none none) = .nx (loE v (some (.lst [tupS [], tupS [a]], .o)) (some (.str a, .s)) none none) := rfl
  have e3 : mLc (.nm 3) [3] (itSq (mV 1)) (mYes) (mTup [mO1 lenP (.pl 3), mV 3]) (loE v (some (.lst [tupS [], tupS [a]], .o)) (some (.str a, .s)) none none) = .ok (.lst P) true (loE v (some (.lst [tupS [], tupS [a]], .s)) (some (.str a, .s)) none none) := rfl
  have hs : sortDP (.lst P) = some (.lst P, true) := sort_lst (okSort_pd [(0, []), (1, [a])]) (pw2 a) (by simp [P])
  have it : itSq (mO1 sortDP (.ex (mLc (.nm 3) [3] (itSq (mV 1)) (mYes) (mTup [mO1 lenP (.pl 3), mV 3])))) (loE v (some (.lst [tupS [], tupS [a]], .o)) (some (.str a, .s)) none none) = .ok P (loE v (some (.lst [tupS [], tupS [a]], .s)) (some (.str a, .s)) none none) := by
    exact ev_itL (ev_x e3 hs)
  have e4 : mLc (.tp [.nm 4, .nm 3]) [4, 3] (itSq (mO1 sortDP (.ex (mLc (.nm 3) [3] (itSq (mV 1)) (mYes) (mTup [mO1 lenP (.pl 3), mV 3]))))) (mT (mO2 (cmpP fun i j => decide (j < i)) (.pl 4) (.ex (mC (.int 0))))) (mV 3) (loE v (some (.lst [tupS [], tupS [a]], .o)) (some (.str a, .s)) none none) = .ok (.lst [tupS [a]]) true (loE v (some (.lst [tupS [], tupS [a]], .s)) (some (.str a, .s)) none none) := by
    exact ev_lcFG (t := .tp [.nm 4, .nm 3]) (vs := [4, 3]) (tt := mT (mO2 (cmpP fun i j => decide (j < i)) (.pl 4) (.ex (mC (.int 0))))) (me := mV 3) (as := [((0 : Int), ([] : List Str)), (1, [a])]) (g := fun p => pd p.1 p.2) (p := fun p => decide (0 < p.1)) (f := fun p => tupS p.2) it (e0 := loE v (some (.lst [tupS [], tupS [a]], .s)) (some (.str a, .s)) none none) rfl fun p _ =>
      ⟨loE v (some (.lst [tupS [], tupS [a]], .s)) (some (.str a, .s)) (some (tupS p.2, .s)) (some (.int p.1, .s)), rfl, rfl, rfl, fun _ => ⟨false, loE v (some (.lst [tupS [], tupS [a]], .s)) (some (.str a, .s)) (some (tupS p.2, .s)) (some (.int p.1, .s)), rfl, rfl⟩⟩
  exact mk_rt ((ev_seq s1).trans ((ev_seq s2).trans (ev_ret e4)))
theorem lots2 {a b c d : Str} (h : sSort [a, b] = [c, d]) : c__law_lots [.tup [.str a, .str b]] = .ok (.lst [tupS [c], tupS [d], tupS [c, d]]) true none := by
  let v : D := .tup [.str a, .str b]
  let P : List D := [pd 0 [], pd 1 [c], pd 1 [d], pd 2 [c, d]]
  let L : List D := [tupS [], tupS [c], tupS [d], tupS [c, d]]
  have s1 : mSet 1 (mLst [mTup []]) (startE 5 false [v]) = .nx (loE v (some (.lst [.tup []], .o)) none none none) := rfl
  have i2 : itSq (mO1 sortQ (.pl 0)) (loE v (some (.lst [.tup []], .o)) none none none) = .ok [.str c, .str d] (loE v (some (.lst [.tup []], .o)) none none none) := by
    have : sortQ v = some (.lst (sl [c, d]), true) := by rw [← h]; exact sortQ_s (ss := [a, b]) (.inr rfl) (by simp)
    exact ev_itL (ev_p (t := .s) (x := v) rfl this)
  have s2 : mFor (.nm 2) (itSq (mO1 sortQ (.pl 0))) (mSet 1 (mO2 addP (.pl 1) (.ex (mLc (.nm 3) [3] (itSq (mV 1)) (mYes) (mO2 addP (.pl 3) (.ex (mTup [mV 2]))))))) (loE v (some (.lst [.tup []], .o)) none none none) = .nx (loE v (some (.lst L, .o)) (some (.str d, .s)) none none) := by
    rw [ev_for i2]
    rfl
  have e3 : mLc (.nm 3) [3] (itSq (mV 1)) (mYes) (mTup [mO1 lenP (.pl 3), mV 3]) (loE v (some (.lst L, .o)) (some (.str d, .s)) none none) = .ok (.lst P) true (loE v (some (.lst L, .s)) (some (.str d, .s)) none none) := rfl
  have hcd : sLe c d = true := by
    have := sSort_sorted [a, b]
    rw [h] at this
    exact (List.pairwise_cons.mp this).1 d (by simp)
  have hs : sortDP (.lst P) = some (.lst P, true) := sort_lst (okSort_pd [(0, []), (1, [c]), (1, [d]), (2, [c, d])]) (pw4 hcd) (by simp [P])
  have it : itSq (mO1 sortDP (.ex (mLc (.nm 3) [3] (itSq (mV 1)) (mYes) (mTup [mO1 lenP (.pl 3), mV 3])))) (loE v (some (.lst L, .o)) (some (.str d, .s)) none none) = .ok P (loE v (some (.lst L, .s)) (some (.str d, .s)) none none) := by
    exact ev_itL (ev_x e3 hs)
  have e4 : mLc (.tp [.nm 4, .nm 3]) [4, 3] (itSq (mO1 sortDP (.ex (mLc (.nm 3) [3] (itSq (mV 1)) (mYes) (mTup [mO1 lenP (.pl 3), mV 3]))))) (mT (mO2 (cmpP fun i j => decide (j < i)) (.pl 4) (.ex (mC (.int 0))))) (mV 3) (loE v (some (.lst L, .o)) (some (.str d, .s)) none none) = .ok (.lst [tupS [c], tupS [d], tupS [c, d]]) true (loE v (some (.lst L, .s)) (some (.str d, .s)) none none) := by
    exact ev_lcFG (t := .tp [.nm 4, .nm 3]) (vs := [4, 3]) (tt := mT (mO2 (cmpP fun i j => decide (j < i)) (.pl 4) (.ex (mC (.int 0))))) (me := mV 3) (as := [((0 : Int), ([] : List Str)), (1, [c]), (1, [d]), (2, [c, d])]) (g := fun p => pd p.1 p.2) (p := fun p => decide (0 < p.1)) (f := fun p => tupS p.2) it (e0 := loE v (some (.lst L, .s)) (some (.str d, .s)) none none) rfl fun p _ =>
      ⟨loE v (some (.lst L, .s)) (some (.str d, .s)) (some (tupS p.2, .s)) (some (.int p.1, .s)), rfl, rfl, rfl, fun _ => ⟨false, loE v (some (.lst L, .s)) (some (.str d, .s)) (some (tupS p.2, .s)) (some (.int p.1, .s)), rfl, rfl⟩⟩
  exact mk_rt ((ev_seq s1).trans ((ev_seq s2).trans (ev_ret e4)))
/-! ### trees -/
def tsE (v : D) (f : List D) (a b c d e : Sl) : EV := [some (v, .s), some (.lst f, .o), a, b, c, d, e]
abbrev tsB (cr : FN) : MS := mSeq (mSet 3 (mO1 tupleP (.ex (mLc (.nm 4) [4] (itSq (mV 0)) (mT (mO2 (inP true) (.pl 4) (.pl 2))) (mV 4)))))
    (mFor (.nm 5) (itSq (mCall cr [mV 3] []))
    (mSet 1 (mO2 addP (.pl 1) (.ex (mLc (.nm 6) [6] (itSq (mCall cr [mV 2] [])) (mYes) (mTup [mV 5, mV 6]))))))
theorem lot_step {cr : FN} {ns lot R : List Str} {x y : D} {f : List D} {z3 z5 : Sl} (f3 : freeE [z3] 0 = true) (f5 : freeE [z5] 0 = true) (hf : (ns.filter fun s => !decide (s ∈ lot)) = R) (hx : cr [tupS R] = .ok (.lst [x]) true none) (hy : cr [tupS lot] = .ok (.lst [y]) true none) (hl : f.length ≤ 1000) :
    tsB cr (tsE (tupS ns) f (some (tupS lot, .s)) z3 none z5 none) = .nx (tsE (tupS ns) (f ++ [.tup [x, y]]) (some (tupS lot, .s)) (some (tupS R, .s)) none (some (x, .s)) none) := by
  have e1 : mLc (.nm 4) [4] (itSq (mV 0)) (mT (mO2 (inP true) (.pl 4) (.pl 2))) (mV 4) (tsE (tupS ns) f (some (tupS lot, .s)) z3 none z5 none) = .ok (.lst (sl R)) true (tsE (tupS ns) f (some (tupS lot, .s)) z3 none z5 none) := by
    have := ev_lcF (env := tsE (tupS ns) f (some (tupS lot, .s)) z3 none z5 none) (mi := itSq (mV 0)) (as := ns) (g := D.str) (f := D.str) (p := fun s => !decide (s ∈ lot)) (tt := mT (mO2 (inP true) (.pl 4) (.pl 2))) (me := mV 4) (i := 4) (e1 := tsE (tupS ns) f (some (tupS lot, .s)) z3 none z5 none) rfl (fun s _ => ev_T (o := false) (ev_pp (t := .s) (t' := .s) (x := .str s) (y := tupS lot) rfl rfl ((in_seq (ss := lot) (Or.inr rfl)).trans (by simp)))) (fun s _ _ => ⟨false, rfl⟩) (by simp [tsE]) (by decide)
    rw [hf] at this
    exact this
  have s1 : mSet 3 (mO1 tupleP (.ex (mLc (.nm 4) [4] (itSq (mV 0)) (mT (mO2 (inP true) (.pl 4) (.pl 2))) (mV 4)))) (tsE (tupS ns) f (some (tupS lot, .s)) z3 none z5 none) = .nx (tsE (tupS ns) f (some (tupS lot, .s)) (some (tupS R, .s)) none z5 none) :=
    ev_set (o := false) (ev_x e1 rfl) f3
  have i2 : itSq (mCall cr [mV 3] []) (tsE (tupS ns) f (some (tupS lot, .s)) (some (tupS R, .s)) none z5 none) = .ok [x] (tsE (tupS ns) f (some (tupS lot, .s)) (some (tupS R, .s)) none z5 none) := by
    exact ev_itL (ev_call (dds := []) (ev_cons (o := false) (ev_vs rfl) ev_nil) hx)
  let E := tsE (tupS ns) f (some (tupS lot, .s)) (some (tupS R, .s)) none (some (x, .s)) none
  have e3 : mLc (.nm 6) [6] (itSq (mCall cr [mV 2] [])) (mYes) (mTup [mV 5, mV 6]) E = .ok (.lst [.tup [x, y]]) true E := by
    have i3 : itSq (mCall cr [mV 2] []) E = .ok [y] E := by
      exact ev_itL (ev_call (dds := []) (ev_cons (o := false) (ev_vs rfl) ev_nil) hy)
    exact ev_lcA (as := [y]) (g := id) (f := fun y => .tup [x, y]) (e1 := E) i3 (fun y _ => ⟨false, rfl⟩) (by simp [E, tsE]) (by decide)
  have s3 : mSet 1 (mO2 addP (.pl 1) (.ex (mLc (.nm 6) [6] (itSq (mCall cr [mV 2] [])) (mYes) (mTup [mV 5, mV 6])))) E = .nx (tsE (tupS ns) (f ++ [.tup [x, y]]) (some (tupS lot, .s)) (some (tupS R, .s)) none (some (x, .s)) none) :=
    ev_set (o := true) (ev_px (t := .o) (t' := .o) (x0 := .lst f) (x := .lst f) rfl e3 rfl (addP_lst (by simp; omega))) rfl
  refine (ev_seq s1).trans ((ev_for i2).trans ?_)
  have ht : setTg (.nm 5) x (tsE (tupS ns) f (some (tupS lot, .s)) (some (tupS R, .s)) none z5 none) = some E := by
    unfold setTg
    rw [show freeE (tsE (tupS ns) f (some (tupS lot, .s)) (some (tupS R, .s)) none z5 none) 5 = true from f5]
    rfl
  exact (ev_forC ht s3).trans rfl
theorem trees1 (n : Nat) (a : Str) : c__law_trees (n + 1) [tupS [a]] = .ok (.lst [.str a]) true none := rfl
theorem trees2 (n : Nat) {a b : Str} (h : a ≠ b) : c__law_trees (n + 2) [tupS [a, b]] = .ok (.lst [.tup [.str a, .str b]]) true none := by
  have s1 : mIfS (mT (mO2 eqP (.ex (mO1 lenP (.pl 0))) (.ex (mC (.int 1))))) (mRet (mLst [mO2 ixP (.pl 0) (.ex (mC (.int 0)))])) (mNext) (startE 7 false [tupS [a, b]]) = .nx (startE 7 false [tupS [a, b]]) := rfl
  have s2 : mSet 1 (mLst []) (startE 7 false [tupS [a, b]]) = .nx (tsE (tupS [a, b]) [] none none none none none) := rfl
  have i3 : itSq (mCall c__law_lots [mSl (.pl 0) (some (mC (.int 1))) none] []) (tsE (tupS [a, b]) [] none none none none none) = .ok [tupS [b]] (tsE (tupS [a, b]) [] none none none none none) := by
    exact ev_itL (ev_call (dds := []) (ev_cons (d := .tup [.str b]) (o := false) rfl ev_nil) (lots1 b))
  have st := lot_step (cr := c__law_trees (n + 1)) (ns := [a, b]) (lot := [b]) (R := [a]) (f := []) (z3 := none) (z5 := none) rfl rfl (by simp [h]) (trees1 n a) (trees1 n b) (by simp)
  have s3 : mFor (.nm 2) (itSq (mCall c__law_lots [mSl (.pl 0) (some (mC (.int 1))) none] [])) (tsB (c__law_trees (n + 1))) (tsE (tupS [a, b]) [] none none none none none) = .nx (tsE (tupS [a, b]) [.tup [.str a, .str b]] (some (tupS [b], .s)) (some (tupS [a], .s)) none (some (.str a, .s)) none) :=
    (ev_for i3).trans ((ev_forC (e := tsE (tupS [a, b]) [] (some (tupS [b], .s)) none none none none) rfl st).trans rfl)
  exact mk_rt (b := b__law_trees (c__law_trees (n + 1))) ((ev_seq s1).trans ((ev_seq s2).trans ((ev_seq s3).trans rfl)))
theorem trees3 (n : Nat) {a b c d e : Str} (h : sSort [b, c] = [d, e]) (hn : [a, b, c].Nodup) : c__law_trees (n + 3) [tupS [a, b, c]] = .ok (.lst ([Tr.nd true (.nd true (.leaf a) (.leaf e)) (.leaf d), .nd true (.nd true (.leaf a) (.leaf d)) (.leaf e), .nd true (.leaf a) (.nd true (.leaf d) (.leaf e))].map Tr.D)) true none := by
  have hp : [d, e].Perm [b, c] := by rw [← h]; exact sSort_perm _
  have hn2 : a ≠ b ∧ a ≠ c ∧ b ≠ c := by
    simp at hn
    exact ⟨hn.1.1, hn.1.2, hn.2⟩
  have hde : d ≠ e := by
    have : [d, e].Nodup := hp.nodup_iff.mpr (by simp [hn2.2.2])
    simpa using this
  have hd : d = b ∧ e = c ∨ d = c ∧ e = b := by
    have h1 := hp.subset (List.mem_cons_self (a := d) (l := [e]))
    have h2 := hp.subset (show e ∈ [d, e] by simp)
    simp only [List.mem_cons, List.not_mem_nil, or_false] at h1 h2
    rcases h1 with h1 | h1 <;> rcases h2 with h2 | h2
    · exact absurd (h1.trans h2.symm) hde
    · exact .inl ⟨h1, h2⟩
    · exact .inr ⟨h1, h2⟩
    · exact absurd (h1.trans h2.symm) hde
  have had : a ≠ d ∧ a ≠ e := by rcases hd with ⟨rfl, rfl⟩ | ⟨rfl, rfl⟩ <;> exact ⟨by first | exact hn2.1 | exact hn2.2.1, by first | exact hn2.2.1 | exact hn2.1⟩
  have f1 : ([a, b, c].filter fun s => !decide (s ∈ [d])) = [a, e] := by
    rcases hd with ⟨rfl, rfl⟩ | ⟨rfl, rfl⟩
    · simp [hn2, hn2.2.2.symm]
    · simp [hn2]
  have f2 : ([a, b, c].filter fun s => !decide (s ∈ [e])) = [a, d] := by
    rcases hd with ⟨rfl, rfl⟩ | ⟨rfl, rfl⟩
    · simp [hn2]
    · simp [hn2, hn2.2.2.symm]
  have f3 : ([a, b, c].filter fun s => !decide (s ∈ [d, e])) = [a] := by
    rcases hd with ⟨rfl, rfl⟩ | ⟨rfl, rfl⟩
    · simp [hn2]
    · simp [hn2]
  let E := startE 7 false [tupS [a, b, c]]
  have s1 : mIfS (mT (mO2 eqP (.ex (mO1 lenP (.pl 0))) (.ex (mC (.int 1))))) (mRet (mLst [mO2 ixP (.pl 0) (.ex (mC (.int 0)))])) (mNext) (startE 7 false [tupS [a, b, c]]) = .nx (startE 7 false [tupS [a, b, c]]) := rfl
  have s2 : mSet 1 (mLst []) (startE 7 false [tupS [a, b, c]]) = .nx (tsE (tupS [a, b, c]) [] none none none none none) := rfl
  have i3 : itSq (mCall c__law_lots [mSl (.pl 0) (some (mC (.int 1))) none] []) (tsE (tupS [a, b, c]) [] none none none none none) = .ok [tupS [d], tupS [e], tupS [d, e]] (tsE (tupS [a, b, c]) [] none none none none none) := by
    exact ev_itL (ev_call (dds := []) (ev_cons (d := .tup [.str b, .str c]) (o := false) rfl ev_nil) (lots2 h))
  have st1 := lot_step (cr := c__law_trees (n + 2)) (ns := [a, b, c]) (lot := [d]) (R := [a, e]) (f := []) (z3 := none) (z5 := none) rfl rfl f1 (trees2 n had.2) (trees1 (n + 1) d) (by simp)
  have st2 := lot_step (cr := c__law_trees (n + 2)) (ns := [a, b, c]) (lot := [e]) (R := [a, d]) (f := [] ++ [.tup [.tup [.str a, .str e], .str d]]) (z3 := some (tupS [a, e], .s)) (z5 := some (.tup [.str a, .str e], .s)) rfl rfl f2 (trees2 n had.1) (trees1 (n + 1) e) (by simp)
  have st3 := lot_step (cr := c__law_trees (n + 2)) (ns := [a, b, c]) (lot := [d, e]) (R := [a]) (f := [] ++ [.tup [.tup [.str a, .str e], .str d]] ++ [.tup [.tup [.str a, .str d], .str e]]) (z3 := some (tupS [a, d], .s)) (z5 := some (.tup [.str a, .str d], .s)) rfl rfl f3 (trees1 (n + 1) a) (trees2 n hde) (by simp)
  have s3 := (ev_for (tgt := .nm 2) (b := tsB (c__law_trees (n + 2))) i3).trans ((ev_forC (e := tsE (tupS [a, b, c]) [] (some (tupS [d], .s)) none none none none) rfl st1).trans ((ev_forC (e := tsE (tupS [a, b, c]) ([] ++ [.tup [.tup [.str a, .str e], .str d]]) (some (tupS [e], .s)) (some (tupS [a, e], .s)) none (some (.tup [.str a, .str e], .s)) none) rfl st2).trans ((ev_forC (e := tsE (tupS [a, b, c]) ([] ++ [.tup [.tup [.str a, .str e], .str d]] ++ [.tup [.tup [.str a, .str d], .str e]]) (some (tupS [d, e], .s)) (some (tupS [a, d], .s)) none (some (.tup [.str a, .str d], .s)) none) rfl st3).trans rfl)))
  exact mk_rt (b := b__law_trees (c__law_trees (n + 2))) ((ev_seq s1).trans ((ev_seq s2).trans ((ev_seq s3).trans rfl)))
end K39

set_option Elab.async false
set_option linter.all false
set_option maxRecDepth 100000
set_option maxHeartbeats 1000000
/-! K39M12: rows of names, what is shown, what is heard. -/
namespace K39
open PySem DL LamX
def comb (r : Tr) (rest : List Str) : Tr := rest.foldl (fun t n => .nd true t (.leaf n)) r
theorem comb_leaves : ∀ (rest : List Str) (r : Tr), (comb r rest).leaves = r.leaves ++ rest
  | [], r => by simp [comb]
  | n :: rest, r => by
    have := comb_leaves rest (.nd true r (.leaf n))
    show (comb (.nd true r (.leaf n)) rest).leaves = _
    rw [this]
    simp [Tr.leaves]
theorem comb_chained : ∀ (rest : List Str) (r : Tr), r.chained = true → (comb r rest).chained = true
  | [], r, h => h
  | n :: rest, r, h => comb_chained rest (.nd true r (.leaf n)) (by simp [Tr.chained, Tr.isLeaf, h])
theorem comb_steps : ∀ (rest : List Str) (r : Tr), (comb r rest).steps = r.steps ++ (List.range rest.length).map fun k => sSort (r.leaves ++ rest.take (k + 1))
  | [], r => by simp [comb]
  | n :: rest, r => by
    have := comb_steps rest (.nd true r (.leaf n))
    show (comb (.nd true r (.leaf n)) rest).steps = _
    rw [this, List.length_cons, List.range_succ_eq_map, List.map_cons, List.map_map]
    simp only [Tr.steps, Tr.leaves, List.append_nil, List.append_assoc, List.take_succ_cons, List.take_zero]
    congr 1
theorem eqL_tups : ∀ a b : List (List Str), eqL (a.map tupS) (b.map tupS) = decide (a = b)
  | [], [] => rfl
  | [], y :: b => by simp [eqL]
  | x :: a, [] => by simp [eqL]
  | x :: a, y :: b => by
    have ih := eqL_tups a b
    show (eqL (sl x) (sl y) && eqL (a.map tupS) (b.map tupS)) = _
    rw [ih, eqL_sl]
    by_cases h : x = y
    · subst h; simp
    · simp [h]
theorem dep_tups : ∀ L : List (List Str), ∃ n, depL (L.map tupS) = some n ∧ n ≤ 1
  | [] => ⟨0, rfl, by decide⟩
  | s :: r => by
    obtain ⟨n, h, hn⟩ := dep_tups r
    have hs : depD (tupS s) = some 1 := by
      show (depL (sl s)).map (· + 1) = _
      rw [depStrs]; rfl
    refine ⟨max 1 n, ?_, by omega⟩
    show (match depD (tupS s), depL (r.map tupS) with
      | some p, some ps => some (max p ps)
      | _, _ => none) = _
    rw [hs, h]
theorem okDep_tups (L : List (List Str)) : okDep (.tup (L.map tupS)) = true := by
  obtain ⟨n, h, hn⟩ := dep_tups L
  have hd : depD (.tup (L.map tupS)) = some (n + 1) := by
    show (depL (L.map tupS)).map (· + 1) = _
    rw [h]; rfl
  unfold okDep
  rw [hd]
  exact decide_eq_true (by omega)
theorem neP_tups (L : List (List Str)) : neP (.tup (L.map tupS)) (.tup (L.map tupS)) = some (.bl false, false) := by
  unfold neP
  rw [okDep_tups]
  show some (D.bl (!eqL (L.map tupS) (L.map tupS)), false) = _
  rw [eqL_tups, decide_eq_true rfl]
  rfl
/-! ### what is shown by repr -/
theorem ev_rpr {env e1 e2 : EV} {m1 m2 : ME} {x : D} {o1 o2 neg : Bool} {p : PyData} (h1 : m1 env = .ok x o1 e1) (h2 : m2 e1 = .ok x o2 e2) (hr : isRoot x = true) (hp : pyD x = some p) (hk : rprOk p = true) : mRpr neg m1 m2 env = .ok (.bl (!neg)) false e2 := by
  unfold mRpr bindE
  simp only [h1]
  rw [if_pos ⟨hr, p, hp, hk⟩]
  simp only [h2, if_true]
theorem show_sl : ∀ ss : List Str, PyData.showableAll (ss.map PyData.str) = true
  | [] => by simp [PyData.showableAll]
  | s :: r => by simp [PyData.showableAll, PyData.showable, show_sl r]
theorem short_s {s : Str} (h : NameOk s) : PyData.leavesShort 8 (.str s) = true := by
  simp only [PyData.leavesShort, List.all_eq_true, decide_eq_true_eq]
  intro c hc
  have h1 := (h.2.2 c hc).2
  have h2 : (122 : Nat) < 16 ^ 8 := by decide
  omega
theorem short_sl : ∀ ss : List Str, (∀ s ∈ ss, NameOk s) → PyData.leavesShortAll 8 (ss.map PyData.str) = true
  | [], _ => by simp [PyData.leavesShortAll]
  | s :: r, h => by
    simp only [List.map_cons, PyData.leavesShortAll, short_s (h s List.mem_cons_self), short_sl r fun x hx => h x (List.mem_cons_of_mem _ hx), Bool.and_self]
theorem bulk_s {s : Str} (h : NameOk s) : PyData.bulk (.str s) ≤ 8 := by
  have := h.2.1
  simp only [PyData.bulk]
  simpa using this
theorem bulk_sl : ∀ ss : List Str, (∀ s ∈ ss, NameOk s) → PyData.bulkAll (ss.map PyData.str) ≤ 9 * ss.length
  | [], _ => by simp [PyData.bulkAll]
  | s :: r, h => by
    have h1 := bulk_s (h s List.mem_cons_self)
    have h2 := bulk_sl r fun x hx => h x (List.mem_cons_of_mem _ hx)
    simp only [List.map_cons, PyData.bulkAll, List.length_cons]
    omega
abbrev pyT (ss : List Str) : PyData := .tuple (ss.map .str)
theorem pyL_tups : ∀ L : List (List Str), pyL (L.map tupS) = some (L.map pyT)
  | [] => rfl
  | s :: r => by
    have ih := pyL_tups r
    show (match pyD (tupS s), pyL (r.map tupS) with
      | some p, some ps => some (p :: ps)
      | _, _ => none) = _
    rw [ih, pyD_tupS]
    rfl
theorem rpr_tups {L : List (List Str)} (hl : L.length ≤ 100) (hs : ∀ s ∈ L, s.length ≤ 100 ∧ ∀ x ∈ s, NameOk x) : ∃ p, pyD (.tup (L.map tupS)) = some p ∧ rprOk p = true := by
  refine ⟨.tuple (L.map pyT), by show (pyL (L.map tupS)).map PyData.tuple = _; rw [pyL_tups]; rfl, ?_⟩
  have h1 : PyData.showableAll (L.map pyT) = true := by
    clear hl hs
    induction L with
    | nil => simp [PyData.showableAll]
    | cons s r ih => simp [PyData.showableAll, PyData.showable, show_sl, ih]
  have h2 : PyData.depthAll (L.map pyT) ≤ 1 := by
    clear hl hs h1
    induction L with
    | nil => simp [PyData.depthAll]
    | cons s r ih =>
      simp only [List.map_cons, PyData.depthAll, PyData.depth, depth_strs]
      omega
  have h3 : PyData.leavesShortAll 8 (L.map pyT) = true := by
    clear hl h1 h2
    induction L with
    | nil => simp [PyData.leavesShortAll]
    | cons s r ih =>
      simp only [List.map_cons, PyData.leavesShortAll, PyData.leavesShort, short_sl s (hs s List.mem_cons_self).2, ih fun x hx => hs x (List.mem_cons_of_mem _ hx), Bool.and_self]
  have h4 : PyData.bulkAll (L.map pyT) ≤ 1000 * L.length := by
    clear hl h1 h2 h3
    induction L with
    | nil => simp [PyData.bulkAll]
    | cons s r ih =>
      have a1 := bulk_sl s (hs s List.mem_cons_self).2
      have a2 := (hs s List.mem_cons_self).1
      have a3 := ih fun x hx => hs x (List.mem_cons_of_mem _ hx)
      simp only [List.map_cons, PyData.bulkAll, PyData.bulk, List.length_cons]
      omega
  unfold rprOk
  rw [Bool.and_eq_true, Bool.and_eq_true, decide_eq_true_eq, decide_eq_true_eq]
  refine ⟨by simp only [PyData.showable]; exact h1, ?_, ?_⟩
  · simp only [PyData.depth]
    omega
  · refine PyData.shown_fits_bulk (B := 8) (by decide) (by decide) (by simp only [PyData.leavesShort]; exact h3) ?_
    simp only [PyData.bulk]
    have : (2 : Nat) ^ 20 = 1048576 := by decide
    omega
theorem rpr_bools (b : Bool) : ∃ p, pyD (.lst [.bl b, .bl b]) = some p ∧ rprOk p = true := by
  refine ⟨.list [.bool b, .bool b], rfl, ?_⟩
  unfold rprOk
  rw [Bool.and_eq_true, Bool.and_eq_true, decide_eq_true_eq, decide_eq_true_eq]
  refine ⟨by simp [PyData.showable, PyData.showableAll], by simp [PyData.depth, PyData.depthAll], ?_⟩
  refine PyData.shown_fits_bulk (B := 8) (by decide) (by decide) (by simp [PyData.leavesShort, PyData.leavesShortAll]) ?_
  simp only [PyData.bulk, PyData.bulkAll]
  have : (2 : Nat) ^ 20 = 1048576 := by decide
  omega
/-! ### what is heard -/
def tq : D := .tup [.str "query", .str "query"]
def tord : D := .tup [.str "order", .str "order"]
theorem ev_heardQ {env e : EV} {mb : ME} (h : mb (shOnly env) = .exc 2 [.str "query"] e) : mHeard hv__law_heard mb env = .ok tq false env := by
  unfold mHeard
  rw [h]
  rfl
theorem ev_heardO {env e : EV} {mb : ME} (h : mb (shOnly env) = .exc 3 [.str "order"] e) : mHeard hv__law_heard mb env = .ok tord false env := by
  unfold mHeard
  rw [h]
  rfl
/-- the slots of the law -/
def lwE (s p t pl q n tb tr du rw' nm at' od ba he on : Sl) : EV := [s, p, t, pl, q, n, tb, tr, du, rw', nm, at', od, ba, he, on]
abbrev Fr (z : Sl) : Prop := freeE [z] 0 = true
theorem row_loop {a0 a1 a2 a3 a4 a5 a6 a7 a8 a11 a12 a13 a14 a15 : Sl} : ∀ (rest : List Str) (r : Tr) (z : Sl), Fr z → ∃ z', Fr z' ∧ forE (.nm 10) (mSet 9 (mTup [mV 9, mV 10])) (sl rest) (lwE a0 a1 a2 a3 a4 a5 a6 a7 a8 (some (r.D, .s)) z a11 a12 a13 a14 a15) = .nx (lwE a0 a1 a2 a3 a4 a5 a6 a7 a8 (some ((comb r rest).D, .s)) z' a11 a12 a13 a14 a15)
  | [], r, z, hz => ⟨z, hz, rfl⟩
  | n :: rest, r, z, hz => by
    obtain ⟨z', h1, h2⟩ := row_loop (a0 := a0) (a1 := a1) (a2 := a2) (a3 := a3) (a4 := a4) (a5 := a5) (a6 := a6) (a7 := a7) (a8 := a8) (a11 := a11) (a12 := a12) (a13 := a13) (a14 := a14) (a15 := a15) rest (.nd true r (.leaf n)) (some (.str n, .s)) rfl
    refine ⟨z', h1, ?_⟩
    refine (ev_forC (e := lwE a0 a1 a2 a3 a4 a5 a6 a7 a8 (some (r.D, .s)) (some (.str n, .s)) a11 a12 a13 a14 a15) ?_ (e' := lwE a0 a1 a2 a3 a4 a5 a6 a7 a8 (some ((Tr.nd true r (.leaf n)).D, .s)) (some (.str n, .s)) a11 a12 a13 a14 a15) ?_).trans h2
    · unfold setTg
      rw [show freeE (lwE a0 a1 a2 a3 a4 a5 a6 a7 a8 (some (r.D, .s)) z a11 a12 a13 a14 a15) 10 = true from hz]
      rfl
    · rfl
theorem cut_to (xs : List D) (k : Nat) : cutD xs none (some (k : Int)) = xs.take k := by
  unfold cutD
  have h : HT.sIx xs.length xs.length (some (k : Int)) = min k xs.length := HT.sIx_nat _ _ k
  have h2 : HT.sIx xs.length 0 none = 0 := rfl
  rw [h, h2]
  show (xs.drop 0).take (min k xs.length - 0) = _
  rw [List.drop_zero, Nat.sub_zero, ← List.take_take, List.take_length]
end K39

set_option Elab.async false
set_option linter.all false
set_option maxRecDepth 100000
set_option maxHeartbeats 1000000
/-! K39M13: the law's steps. -/
namespace K39
open PySem DL LamX
noncomputable abbrev lw3 : MS := (mSet 3 (mCallIO c__law_plain 1 [mC (.int 5), mC (.int 2)] []))
noncomputable abbrev lw4 : MS := (mUn (.tp [.nm 4, .nm 5]) (mTup [mCall c__law_query [mV 3] [], mLc (.nm 6) [6] (itSq (mO2 dgetP (.pl 3) (.ex (mC (.str "tables"))))) (mYes) (mO2 ixP (.pl 6) (.ex (mC (.int 0))))]))
noncomputable abbrev lw5 : MS := (mSet 7 (mCallIO c__law_tree 1 [mV 5] []))
noncomputable abbrev lw6 : MS := (mSet 8 (mO1 tupleP (.ex (mCall (c__law_steps 10) [mV 7] []))))
noncomputable abbrev lw7 : MS := (mIfS (mOrT (mT (mRpr true (mCall c_steps_of [mV 4, mV 7] []) (mV 8))) (mOrT (mT (mO2 neP (.ex (mCallK c_steps_of [mV 7, mV 4] pd_steps_of)) (.pl 8))) (mT (mO2 neP (.ex (mO1 lenP (.pl 8))) (.ex (mO2 subP (.ex (mO1 lenP (.pl 5))) (.ex (mC (.int 1))))))))) (mRet (mC (.bl false))) (mNext))
noncomputable abbrev lw8 : MS := (mIfS (mT (mRpr true (mLst [mCall c_is_chain [mV 4, mV 7] [], mCallK c_is_chain [mV 7, mV 4] pd_is_chain]) (mO2 repP (.ex (mLst [mCall (c__law_is_chain 10) [mV 7] []])) (.ex (mC (.int 2)))))) (mRet (mC (.bl false))) (mNext))
noncomputable abbrev lw9 : MS := (mSet 9 (mO2 ixP (.pl 5) (.ex (mC (.int 0)))))
noncomputable abbrev lw10 : MS := (mFor (.nm 10) (itSq (mSl (.pl 5) (some (mC (.int 1))) none))
    (mSet 9 (mTup [mV 9, mV 10])))
noncomputable abbrev lw12 : MS := (mIfS (mOrT (mT (mO2 (isBP true) (.ex (mCall c_is_chain [mV 4, mV 9] [])) (.ex (mC (.bl true))))) (mT (mO2 neP (.ex (mCall c_steps_of [mV 4, mV 9] [])) (.ex (mO1 tupleP (.ex (mLc (.nm 11) [11] (mRg1 (mO2 subP (.ex (mO1 lenP (.pl 5))) (.ex (mC (.int 1))))) (mYes) (mO1 tupleP (.ex (mO1 sortQ (.ex (mSl (.pl 5) none (some (mO2 addP (.pl 11) (.ex (mC (.int 2))))))))))))))))) (mRet (mC (.bl false))) (mNext))
noncomputable abbrev lw13 : MS := (mUn (.tp [.nm 12, .nm 13]) (mTup [mCallIO c__law_pick 1 [mLst [mC .non, mC (.int 5), mO2 dgetP (.pl 3) (.ex (mC (.str "tables"))), mC (.str "query"), mTup []]] [], mCallIO c__law_bent 1 [mV 5, mV 7] []]))
noncomputable abbrev lw14 : MS := (mSet 14 (mLst [mHeard hv__law_heard (mCall c_steps_of [mV 12, mV 13] []), mHeard hv__law_heard (mCall c_is_chain [mV 12, mV 13] []), mHeard hv__law_heard (mCall c_steps_of [mV 4, mV 13] [])]))
noncomputable abbrev lw15 : MS := (mIfS (mT (mO2 neP (.ex (mO2 addP (.pl 14) (.ex (mLst [mHeard hv__law_heard (mCall c_is_chain [mV 4, mV 13] [])])))) (.ex (mO2 addP (.ex (mO2 repP (.ex (mLst [mTup [mC (.str "query"), mC (.str "query")]])) (.ex (mC (.int 2))))) (.ex (mO2 repP (.ex (mLst [mTup [mC (.str "order"), mC (.str "order")]])) (.ex (mC (.int 2))))))))) (mRet (mC (.bl false))) (mNext))
noncomputable abbrev lw16 : MS := (mIfS (mAndT (mT (mO2 eqP (.ex (mO1 lenP (.pl 5))) (.ex (mC (.int 3))))) (mT (mO2 neP (.ex (mO1 lenP (.ex (mLc (.nm 15) [15] (itSq (mCall (c__law_trees 5) [mO1 tupleP (.pl 5)] [])) (mT (mO2 neP (.ex (mO2 ixP (.ex (mO1 sortDP (.ex (mCall c_steps_of [mV 4, mV 15] [])))) (.ex (mC (.int 0))))) (.ex (mTup [])))) (mV 15))))) (.ex (mC (.int 3)))))) (mRet (mC (.bl false))) (mNext))
noncomputable abbrev turnB : MS := mSeq lw3 (mSeq lw4 (mSeq lw5 (mSeq lw6 (mSeq lw7 (mSeq lw8 (mSeq lw9 (mSeq lw10 (mSeq lw12 (mSeq lw13 (mSeq lw14 (mSeq lw15 (lw16))))))))))))
theorem set2 {i j : Nat} {x y : D} {env : EV} (hi : freeE env i = true) (hj : freeE (env.set i (some (x, .s))) j = true) : setTg (.tp [.nm i, .nm j]) (.tup [x, y]) env = some ((env.set i (some (x, .s))).set j (some (y, .s))) := by
  simp only [setTg, setTgs, hi, hj]
theorem neP_same (a : Int) : neP (.int a) (.int a) = some (.bl false, false) := by
  show some (D.bl (!eqD (.int a) (.int a)), false) = _
  simp [eqD]
section
variable {a0 a2 a3 a4 a5 a6 a7 a8 a9 a10 a11 a12 a13 a14 a15 : Sl} {pen : D} {tl : List Tb} {ps : List (Str × Str)} {T : Nat} {t : Tr}
abbrev nsOf (tl : List Tb) : List Str := tl.map (·.name)
abbrev sP (pen : D) : Sl := some (pen, .o)
abbrev sS (d : D) : Sl := some (d, .s)
theorem st3 (h3 : Fr a3) (hp : PenOk T pen) (hT : T + 2000 ≤ 1000000) : ∃ tl ps pen', lw3 (lwE a0 (sP pen) a2 a3 a4 a5 a6 a7 a8 a9 a10 a11 a12 a13 a14 a15) = .nx (lwE a0 (sP pen') a2 (some (plainD tl ps, .o)) a4 a5 a6 a7 a8 a9 a10 a11 a12 a13 a14 a15) ∧ PlainOk tl ps 5 ∧ PenOk (T + 2000) pen' := by
  obtain ⟨tl, ps, pen', e, h, hp'⟩ := plain_ok (most := 5) (w := 2) hp hT (by decide) (by decide) (by decide) (by decide) (by decide)
  refine ⟨tl, ps, pen', ?_, h, hp'⟩
  exact ev_set (o := true) (ev_callIO (t := .o) (dds := []) (x := pen) rfl (ev_cons (o := false) rfl (ev_cons (o := false) rfl ev_nil)) rfl (by decide) e) h3
theorem st4 (h4 : Fr a4) (h5 : Fr a5) (h : PlainOk tl ps 5) : lw4 (lwE a0 (sP pen) a2 (some (plainD tl ps, .o)) a4 a5 a6 a7 a8 a9 a10 a11 a12 a13 a14 a15) = .nx (lwE a0 (sP pen) a2 (sS (plainD tl ps)) (sS (qryD tl ps)) (sS (.lst (sl (nsOf tl)))) none a7 a8 a9 a10 a11 a12 a13 a14 a15) := by
  let E1 := lwE a0 (sP pen) a2 (sS (plainD tl ps)) a4 a5 a6 a7 a8 a9 a10 a11 a12 a13 a14 a15
  let E2 := lwE a0 (sP pen) a2 (sS (plainD tl ps)) a4 a5 none a7 a8 a9 a10 a11 a12 a13 a14 a15
  have e1 : mCall c__law_query [mV 3] [] (lwE a0 (sP pen) a2 (some (plainD tl ps, .o)) a4 a5 a6 a7 a8 a9 a10 a11 a12 a13 a14 a15) = .ok (qryD tl ps) true E1 :=
    ev_call (dds := []) (ev_cons (o := false) (ev_vo rfl) ev_nil) (law_query_ok h (by decide))
  have e2 : mLc (.nm 6) [6] (itSq (mO2 dgetP (.pl 3) (.ex (mC (.str "tables"))))) (mYes) (mO2 ixP (.pl 6) (.ex (mC (.int 0)))) E1 = .ok (.lst (sl (nsOf tl))) true E2 := by
    have := ev_lcA (env := E1) (mi := itSq (mO2 dgetP (.pl 3) (.ex (mC (.str "tables"))))) (me := mO2 ixP (.pl 6) (.ex (mC (.int 0)))) (as := tl) (g := tbT) (f := fun t => .str t.name) (i := 6) (e1 := E1) rfl (fun t _ => ⟨false, rfl⟩) (by simp [E1, lwE]) (by decide)
    rw [this]
    unfold sl nsOf
    rw [List.map_map]
    rfl
  exact ev_un (ev_tup (ev_cons e1 (ev_cons e2 ev_nil))) (set2 (env := E2) h4 h5)
theorem st5 (h7 : Fr a7) (hp : PenOk T pen) (hT : T + 300 ≤ 1000000) (h : PlainOk tl ps 5) : ∃ (t : Tr) (pen' : D), lw5 (lwE a0 (sP pen) a2 a3 a4 (sS (.lst (sl (nsOf tl)))) a6 a7 a8 a9 a10 a11 a12 a13 a14 a15) = .nx (lwE a0 (sP pen') a2 a3 a4 (sS (.lst (sl (nsOf tl)))) a6 (sS t.D) a8 a9 a10 a11 a12 a13 a14 a15) ∧ t.leaves.Perm (nsOf tl) ∧ PenOk (T + 300) pen' := by
  have h1 := h.ne
  have h2 := h.le
  obtain ⟨t, pen', e, hl, hp'⟩ := law_tree_ok (ns := nsOf tl) hp hT (by rw [List.length_map]; omega) (by rw [List.length_map]; omega)
  exact ⟨t, pen', ev_set (o := false) (ev_callIO (t := .o) (dds := []) (x := pen) rfl (ev_cons (o := false) (ev_vs rfl) ev_nil) rfl (by decide) e) h7, hl, hp'⟩
theorem lv_len (h : PlainOk tl ps 5) (ht : t.leaves.Perm (nsOf tl)) : t.leaves.length ≤ 5 ∧ 1 ≤ t.leaves.length ∧ t.leaves.length = tl.length := by
  have h1 := h.ne
  have h2 := h.le
  have h3 : t.leaves.length = tl.length := by rw [ht.length_eq, List.length_map]
  omega
theorem st6 (h8 : Fr a8) (h : PlainOk tl ps 5) (ht : t.leaves.Perm (nsOf tl)) : lw6 (lwE a0 (sP pen) a2 a3 a4 a5 a6 (sS t.D) a8 a9 a10 a11 a12 a13 a14 a15) = .nx (lwE a0 (sP pen) a2 a3 a4 a5 a6 (sS t.D) (sS (.tup (t.steps.map tupS))) a9 a10 a11 a12 a13 a14 a15) := by
  have h1 := lv_len h ht
  have hd := t.dep_lt
  exact ev_set (o := false) (ev_x (ev_call (dds := []) (ev_cons (o := false) (ev_vs rfl) ev_nil) (law_steps_ok 10 t (by omega) (by omega))) rfl) h8
theorem steps_names {t : Tr} : ∀ s ∈ t.steps, s.length ≤ t.leaves.length ∧ ∀ x ∈ s, x ∈ t.leaves := by
  induction t with
  | leaf s => intro x hx; simp [Tr.steps] at hx
  | nd b l r ihl ihr =>
    intro s hs
    simp only [Tr.steps, Tr.leaves, List.mem_append, List.mem_singleton, List.length_append] at hs ⊢
    rcases hs with (hs | hs) | rfl
    · exact ⟨by have := (ihl s hs).1; omega, fun x hx => .inl ((ihl s hs).2 x hx)⟩
    · exact ⟨by have := (ihr s hs).1; omega, fun x hx => .inr ((ihr s hs).2 x hx)⟩
    · exact ⟨by rw [sort_len, List.length_append]; omega, fun x hx => by
        have := (sSort_perm _).subset hx
        simpa using this⟩
theorem names_word (h : PlainOk tl ps 5) : ∀ s ∈ nsOf tl, WordOk s := fun s hs => by
  obtain ⟨t, ht, rfl⟩ := List.mem_map.mp hs
  exact (h.ok t ht).nm
theorem rpr_due (h : PlainOk tl ps 5) (ht : t.leaves.Perm (nsOf tl)) : ∃ p, pyD (.tup (t.steps.map tupS)) = some p ∧ rprOk p = true := by
  have h1 := lv_len h ht
  have h2 := t.steps_len
  exact rpr_tups (by omega) fun s hs => ⟨by have := (steps_names s hs).1; omega, fun x hx => (names_word h x (ht.subset ((steps_names s hs).2 x hx))).1⟩
theorem st7 (h : PlainOk tl ps 5) (ht : t.leaves.Perm (nsOf tl)) : lw7 (lwE a0 (sP pen) a2 a3 (sS (qryD tl ps)) (sS (.lst (sl (nsOf tl)))) a6 (sS t.D) (sS (.tup (t.steps.map tupS))) a9 a10 a11 a12 a13 a14 a15) = .nx (lwE a0 (sP pen) a2 a3 (sS (qryD tl ps)) (sS (.lst (sl (nsOf tl)))) a6 (sS t.D) (sS (.tup (t.steps.map tupS))) a9 a10 a11 a12 a13 a14 a15) := by
  let E := lwE a0 (sP pen) a2 a3 (sS (qryD tl ps)) (sS (.lst (sl (nsOf tl)))) a6 (sS t.D) (sS (.tup (t.steps.map tupS))) a9 a10 a11 a12 a13 a14 a15
  have h1 := lv_len h ht
  have h2 := t.steps_len
  obtain ⟨p, hp, hk⟩ := rpr_due h ht
  have so := steps_ok (tl := tl) (ps := ps) ht (by omega)
  have t1 : mT (mRpr true (mCall c_steps_of [mV 4, mV 7] []) (mV 8)) E = .ok false E :=
    ev_T (o := false) (ev_rpr (neg := true) (o2 := false) (ev_call (dds := []) (ev_cons (o := false) (ev_vs rfl) (ev_cons (o := false) (ev_vs rfl) ev_nil)) so) (ev_vs rfl) rfl hp hk)
  have t2 : mT (mO2 neP (.ex (mCallK c_steps_of [mV 7, mV 4] pd_steps_of)) (.pl 8)) E = .ok false E :=
    ev_T (o := false) (ev_xp (t := .s) (ev_callK (pd := pd_steps_of) (ev_cons (o := false) (ev_vs rfl) (ev_cons (o := false) (ev_vs rfl) ev_nil)) so) rfl (neP_tups _))
  have l1 : lenP (.tup (t.steps.map tupS)) = some (.int t.steps.length, false) := by
    show some (D.int (t.steps.map tupS).length, false) = _
    rw [List.length_map]
  have l2 : lenP (.lst (sl (nsOf tl))) = some (.int tl.length, false) := by
    show some (D.int (sl (nsOf tl)).length, false) = _
    rw [slen, List.length_map]
  have sb : subP (.int tl.length) (.int 1) = some (.int t.steps.length, false) := by
    show some (D.int ((tl.length : Int) - 1), false) = _
    rw [show (tl.length : Int) - 1 = t.steps.length by omega]
  have t3 : mT (mO2 neP (.ex (mO1 lenP (.pl 8))) (.ex (mO2 subP (.ex (mO1 lenP (.pl 5))) (.ex (mC (.int 1)))))) E = .ok false E :=
    ev_T (o := false) (ev_xx (ev_p (t := .s) rfl l1) (ev_xx (ev_p (t := .s) rfl l2) (o2 := false) rfl sb) (neP_same _))
  exact ev_ifN ((ev_orF t1).trans ((ev_orF t2).trans t3))
theorem st8 (h : PlainOk tl ps 5) (ht : t.leaves.Perm (nsOf tl)) : lw8 (lwE a0 (sP pen) a2 a3 (sS (qryD tl ps)) a5 a6 (sS t.D) a8 a9 a10 a11 a12 a13 a14 a15) = .nx (lwE a0 (sP pen) a2 a3 (sS (qryD tl ps)) a5 a6 (sS t.D) a8 a9 a10 a11 a12 a13 a14 a15) := by
  let E := lwE a0 (sP pen) a2 a3 (sS (qryD tl ps)) a5 a6 (sS t.D) a8 a9 a10 a11 a12 a13 a14 a15
  have h1 := lv_len h ht
  have hd := t.dep_lt
  obtain ⟨p, hp, hk⟩ := rpr_bools t.chained
  have co := chain_ok (tl := tl) (ps := ps) ht (by omega)
  have m1 : mLst [mCall c_is_chain [mV 4, mV 7] [], mCallK c_is_chain [mV 7, mV 4] pd_is_chain] E = .ok (.lst [.bl t.chained, .bl t.chained]) true E :=
    ev_lst (ev_cons (o := false) (ev_call (dds := []) (ev_cons (o := false) (ev_vs rfl) (ev_cons (o := false) (ev_vs rfl) ev_nil)) co) (ev_cons (o := false) (ev_callK (pd := pd_is_chain) (ev_cons (o := false) (ev_vs rfl) (ev_cons (o := false) (ev_vs rfl) ev_nil)) co) ev_nil))
  have m2 : mO2 repP (.ex (mLst [mCall (c__law_is_chain 10) [mV 7] []])) (.ex (mC (.int 2))) E = .ok (.lst [.bl t.chained, .bl t.chained]) true E :=
    ev_xx (ev_lst (ev_cons (o := false) (ev_call (dds := []) (ev_cons (o := false) (ev_vs rfl) ev_nil) (law_is_chain_ok 10 t (by omega))) ev_nil)) (o2 := false) rfl rfl
  exact ev_ifN (ev_T (o := false) (ev_rpr (neg := true) m1 m2 rfl hp hk))
end
end K39

set_option Elab.async false
set_option linter.all false
set_option maxRecDepth 100000
set_option maxHeartbeats 1000000
/-! K39M14: the law's steps, the rest; the law. -/
namespace K39
open PySem DL LamX
section
variable {a0 a2 a3 a4 a5 a6 a7 a8 a9 a10 a11 a12 a13 a14 a15 : Sl} {pen : D} {tl : List Tb} {ps : List (Str × Str)} {T : Nat} {t : Tr} {n0 : Str} {r : List Str}
theorem st9 (h9 : Fr a9) : lw9 (lwE a0 (sP pen) a2 a3 a4 (sS (.lst (sl (n0 :: r)))) a6 a7 a8 a9 a10 a11 a12 a13 a14 a15) = .nx (lwE a0 (sP pen) a2 a3 a4 (sS (.lst (sl (n0 :: r)))) a6 a7 a8 (sS (Tr.leaf n0).D) a10 a11 a12 a13 a14 a15) :=
  ev_set (o := false) (ev_px (t := .s) (t' := .s) (x0 := .lst (sl (n0 :: r))) rfl (o2 := false) (y := .int 0) rfl rfl (ixP_l (by decide) rfl)) h9
theorem st10 (h10 : Fr a10) : ∃ z, Fr z ∧ lw10 (lwE a0 (sP pen) a2 a3 a4 (sS (.lst (sl (n0 :: r)))) a6 a7 a8 (sS (Tr.leaf n0).D) a10 a11 a12 a13 a14 a15) = .nx (lwE a0 (sP pen) a2 a3 a4 (sS (.lst (sl (n0 :: r)))) a6 a7 a8 (sS (comb (.leaf n0) r).D) z a11 a12 a13 a14 a15) := by
  obtain ⟨z, hz, e⟩ := row_loop (a0 := a0) (a1 := sP pen) (a2 := a2) (a3 := a3) (a4 := a4) (a5 := sS (.lst (sl (n0 :: r)))) (a6 := a6) (a7 := a7) (a8 := a8) (a11 := a11) (a12 := a12) (a13 := a13) (a14 := a14) (a15 := a15) r (.leaf n0) a10 h10
  refine ⟨z, hz, (ev_for (ev_itL (ds := sl r) (o := true) ?_)).trans e⟩
  show RE.ok (.lst (cutD (sl (n0 :: r)) (some 1) none)) true _ = _
  rw [cut1]
  rfl
theorem comb_perm : (comb (.leaf n0) r).leaves.Perm (n0 :: r) := by
  rw [comb_leaves]
  exact List.Perm.refl _
theorem st12 (h : PlainOk tl ps 5) (hn : nsOf tl = n0 :: r) (h11 : Fr a11) : lw12 (lwE a0 (sP pen) a2 a3 (sS (qryD tl ps)) (sS (.lst (sl (n0 :: r)))) a6 a7 a8 (sS (comb (.leaf n0) r).D) a10 a11 a12 a13 a14 a15) = .nx (lwE a0 (sP pen) a2 a3 (sS (qryD tl ps)) (sS (.lst (sl (n0 :: r)))) a6 a7 a8 (sS (comb (.leaf n0) r).D) a10 none a12 a13 a14 a15) := by
  let E (z : Sl) := lwE a0 (sP pen) a2 a3 (sS (qryD tl ps)) (sS (.lst (sl (n0 :: r)))) a6 a7 a8 (sS (comb (.leaf n0) r).D) a10 z a12 a13 a14 a15
  have ht : (comb (.leaf n0) r).leaves.Perm (nsOf tl) := by rw [hn]; exact comb_perm
  have h1 := lv_len h ht
  have hlen : tl.length = r.length + 1 := by rw [← List.length_map (f := fun t : Tb => t.name)]; show (nsOf tl).length = _; rw [hn]; rfl
  have co := chain_ok (tl := tl) (ps := ps) ht (by omega)
  rw [comb_chained r (.leaf n0) rfl] at co
  have so := steps_ok (tl := tl) (ps := ps) ht (by omega)
  have t1 : mT (mO2 (isBP true) (.ex (mCall c_is_chain [mV 4, mV 9] [])) (.ex (mC (.bl true)))) (E a11) = .ok false (E a11) :=
    ev_T (o := false) (ev_xx (ev_call (dds := []) (ev_cons (o := false) (ev_vs rfl) (ev_cons (o := false) (ev_vs rfl) ev_nil)) co) (o2 := false) rfl rfl)
  have l2 : lenP (.lst (sl (n0 :: r))) = some (.int (r.length + 1 : Nat), false) := by
    show some (D.int (sl (n0 :: r)).length, false) = _
    rw [slen]; rfl
  have sb : subP (.int (r.length + 1 : Nat)) (.int 1) = some (.int r.length, false) := by
    show some (D.int (((r.length + 1 : Nat) : Int) - 1), false) = _
    rw [show ((r.length + 1 : Nat) : Int) - 1 = r.length by omega]
  have rg : mRg1 (mO2 subP (.ex (mO1 lenP (.pl 5))) (.ex (mC (.int 1)))) (E a11) = .ok ((List.range r.length).map fun (k : Nat) => D.int k) (E a11) := by
    have e0 : mO2 subP (.ex (mO1 lenP (.pl 5))) (.ex (mC (.int 1))) (E a11) = .ok (.int r.length) false (E a11) := ev_xx (ev_p (t := .s) rfl l2) (o2 := false) rfl sb
    have := ev_rg e0 (by omega) (by omega)
    rw [rngD_nat] at this
    exact this
  have e3 : mLc (.nm 11) [11] (mRg1 (mO2 subP (.ex (mO1 lenP (.pl 5))) (.ex (mC (.int 1))))) (mYes) (mO1 tupleP (.ex (mO1 sortQ (.ex (mSl (.pl 5) none (some (mO2 addP (.pl 11) (.ex (mC (.int 2)))))))))) (E a11) = .ok (.lst ((comb (.leaf n0) r).steps.map tupS)) true (E none) := by
    have := ev_lcA (i := 11) (f := fun k => tupS (sSort ((n0 :: r).take (k + 2)))) rg (me := mO1 tupleP (.ex (mO1 sortQ (.ex (mSl (.pl 5) none (some (mO2 addP (.pl 11) (.ex (mC (.int 2)))))))))) (fun k hk => ⟨false, by
      have ea : mSl (.pl 5) none (some (mO2 addP (.pl 11) (.ex (mC (.int 2))))) ((E a11).set 11 (some (.int k, .s))) = .ok (.lst (sl ((n0 :: r).take (k + 2)))) true ((E a11).set 11 (some (.int k, .s))) := by
        have : sliceP (.lst (sl (n0 :: r))) none (some ((k + 2 : Nat) : Int)) = some (.lst (sl ((n0 :: r).take (k + 2))), true) := by
          show some (D.lst (cutD (sl (n0 :: r)) none (some ((k + 2 : Nat) : Int))), true) = _
          rw [cut_to]
          unfold sl
          rw [List.map_take]
        exact (congrArg (fun z => liftP z ((E a11).set 11 (some (.int k, .s)))) this).trans rfl
      exact ev_x (ev_x ea (sortQ_s (.inl rfl) (by rw [List.length_take]; simp; omega))) rfl⟩) (by simp [E, lwE]) (by decide)
    rw [this, comb_steps]
    simp only [Tr.steps, Tr.leaves, List.nil_append, List.map_map]
    rfl
  have t2 : mT (mO2 neP (.ex (mCall c_steps_of [mV 4, mV 9] [])) (.ex (mO1 tupleP (.ex (mLc (.nm 11) [11] (mRg1 (mO2 subP (.ex (mO1 lenP (.pl 5))) (.ex (mC (.int 1))))) (mYes) (mO1 tupleP (.ex (mO1 sortQ (.ex (mSl (.pl 5) none (some (mO2 addP (.pl 11) (.ex (mC (.int 2))))))))))))))) (E a11) = .ok false (E none) :=
    ev_T (o := false) (ev_xx (ev_call (dds := []) (ev_cons (o := false) (ev_vs rfl) (ev_cons (o := false) (ev_vs rfl) ev_nil)) so) (ev_x e3 rfl) (neP_tups _))
  exact ev_ifN ((ev_orF t1).trans t2)
def odds (tl : List Tb) : List D := [.non, .int 5, .lst (tl.map tbT), .str "query", .tup []]
theorem st13 (h12 : Fr a12) (h13 : Fr a13) (h : PlainOk tl ps 5) (ht : t.leaves.Perm (nsOf tl)) (hp : PenOk T pen) (hT : T + 2 ≤ 1000000) : ∃ odd bad pen', lw13 (lwE a0 (sP pen) a2 (sS (plainD tl ps)) a4 (sS (.lst (sl (nsOf tl)))) a6 (sS t.D) a8 a9 a10 a11 a12 a13 a14 a15) = .nx (lwE a0 (sP pen') a2 (sS (plainD tl ps)) a4 (sS (.lst (sl (nsOf tl)))) a6 (sS t.D) a8 a9 a10 a11 (sS odd) (sS bad) a14 a15) ∧ odd ∈ odds tl ∧ Bad (nsOf tl) bad ∧ PenOk (T + 2) pen' := by
  have hne := h.ne
  have hle := h.le
  obtain ⟨odd, pen1, e1, ho, hp1⟩ := pick_ok (xs := odds tl) hp (by omega) (by simp [odds]) (by simp [odds])
  obtain ⟨bad, pen2, e2, hb, hp2⟩ := bent_ok (ns := nsOf tl) (t := t) hp1 (by omega) (names_word h) h.nd ht (by rw [List.length_map]; omega) (by rw [List.length_map]; omega)
  refine ⟨odd, bad, pen2, ?_, ho, hb, hp2⟩
  have em : mLst [mC .non, mC (.int 5), mO2 dgetP (.pl 3) (.ex (mC (.str "tables"))), mC (.str "query"), mTup []] (lwE a0 (sP pen) a2 (sS (plainD tl ps)) a4 (sS (.lst (sl (nsOf tl)))) a6 (sS t.D) a8 a9 a10 a11 a12 a13 a14 a15) = .ok (.lst (odds tl)) true (lwE a0 (sP pen) a2 (sS (plainD tl ps)) a4 (sS (.lst (sl (nsOf tl)))) a6 (sS t.D) a8 a9 a10 a11 a12 a13 a14 a15) := rfl
  have m1 : mCallIO c__law_pick 1 [mLst [mC .non, mC (.int 5), mO2 dgetP (.pl 3) (.ex (mC (.str "tables"))), mC (.str "query"), mTup []]] [] (lwE a0 (sP pen) a2 (sS (plainD tl ps)) a4 (sS (.lst (sl (nsOf tl)))) a6 (sS t.D) a8 a9 a10 a11 a12 a13 a14 a15) = .ok odd false (lwE a0 (sP pen1) a2 (sS (plainD tl ps)) a4 (sS (.lst (sl (nsOf tl)))) a6 (sS t.D) a8 a9 a10 a11 a12 a13 a14 a15) :=
    ev_callIO (t := .o) (dds := []) (x := pen) rfl (ev_cons em ev_nil) rfl (by decide) e1
  have m2 : mCallIO c__law_bent 1 [mV 5, mV 7] [] (lwE a0 (sP pen1) a2 (sS (plainD tl ps)) a4 (sS (.lst (sl (nsOf tl)))) a6 (sS t.D) a8 a9 a10 a11 a12 a13 a14 a15) = .ok bad false (lwE a0 (sP pen2) a2 (sS (plainD tl ps)) a4 (sS (.lst (sl (nsOf tl)))) a6 (sS t.D) a8 a9 a10 a11 a12 a13 a14 a15) :=
    ev_callIO (t := .o) (dds := []) (x := pen1) rfl (ev_cons (o := false) (ev_vs rfl) (ev_cons (o := false) (ev_vs rfl) ev_nil)) rfl (by decide) e2
  exact ev_un (ev_tup (ev_cons m1 (ev_cons m2 ev_nil))) (set2 (env := lwE a0 (sP pen2) a2 (sS (plainD tl ps)) a4 (sS (.lst (sl (nsOf tl)))) a6 (sS t.D) a8 a9 a10 a11 a12 a13 a14 a15) h12 h13)
theorem odd_noq {x : D} (h : x ∈ odds tl) : isiP anc [0, 1] [.own 1] x = some (.bl false, false) := by
  simp only [odds, List.mem_cons, List.not_mem_nil, or_false] at h
  rcases h with rfl | rfl | rfl | rfl | rfl <;> rfl
theorem st14 {odd bad : D} (h14 : Fr a14) (h : PlainOk tl ps 5) (ho : odd ∈ odds tl) (hb : Bad (nsOf tl) bad) : lw14 (lwE a0 (sP pen) a2 a3 (sS (qryD tl ps)) a5 a6 a7 a8 a9 a10 a11 (sS odd) (sS bad) a14 a15) = .nx (lwE a0 (sP pen) a2 a3 (sS (qryD tl ps)) a5 a6 a7 a8 a9 a10 a11 (sS odd) (sS bad) (some (.lst [tq, tq, tord], .o)) a15) := by
  have hle := h.le
  let E := lwE a0 (sP pen) a2 a3 (sS (qryD tl ps)) a5 a6 a7 a8 a9 a10 a11 (sS odd) (sS bad) a14 a15
  have bo := bad_order (tl := tl) (ps := ps) hb (by omega)
  have e1 : mHeard hv__law_heard (mCall c_steps_of [mV 12, mV 13] []) E = .ok tq false E :=
    ev_heardQ (ev_callX (dds := []) (ev_cons (o := false) (ev_vs rfl) (ev_cons (o := false) (ev_vs rfl) ev_nil)) (steps_noq (odd_noq ho)))
  have e2 : mHeard hv__law_heard (mCall c_is_chain [mV 12, mV 13] []) E = .ok tq false E :=
    ev_heardQ (ev_callX (dds := []) (ev_cons (o := false) (ev_vs rfl) (ev_cons (o := false) (ev_vs rfl) ev_nil)) (chain_noq (odd_noq ho)))
  have e3 : mHeard hv__law_heard (mCall c_steps_of [mV 4, mV 13] []) E = .ok tord false E :=
    ev_heardO (ev_callX (dds := []) (ev_cons (o := false) (ev_vs rfl) (ev_cons (o := false) (ev_vs rfl) ev_nil)) (steps_bad (isq tl ps) bo))
  exact ev_set (o := true) (ev_lst (ev_cons e1 (ev_cons e2 (ev_cons e3 ev_nil)))) h14
theorem st15 {bad : D} (h : PlainOk tl ps 5) (hb : Bad (nsOf tl) bad) : lw15 (lwE a0 (sP pen) a2 a3 (sS (qryD tl ps)) a5 a6 a7 a8 a9 a10 a11 a12 (sS bad) (some (.lst [tq, tq, tord], .o)) a15) = .nx (lwE a0 (sP pen) a2 a3 (sS (qryD tl ps)) a5 a6 a7 a8 a9 a10 a11 a12 (sS bad) (some (.lst [tq, tq, tord], .o)) a15) := by
  have hle := h.le
  let E := lwE a0 (sP pen) a2 a3 (sS (qryD tl ps)) a5 a6 a7 a8 a9 a10 a11 a12 (sS bad) (some (.lst [tq, tq, tord], .o)) a15
  have bo := bad_order (tl := tl) (ps := ps) hb (by omega)
  have e1 : mHeard hv__law_heard (mCall c_is_chain [mV 4, mV 13] []) E = .ok tord false E :=
    ev_heardO (ev_callX (dds := []) (ev_cons (o := false) (ev_vs rfl) (ev_cons (o := false) (ev_vs rfl) ev_nil)) (chain_bad (isq tl ps) bo))
  have e2 : mO2 addP (.pl 14) (.ex (mLst [mHeard hv__law_heard (mCall c_is_chain [mV 4, mV 13] [])])) E = .ok (.lst [tq, tq, tord, tord]) true E :=
    ev_px (t := .o) (t' := .o) (x0 := .lst [tq, tq, tord]) rfl (ev_lst (ev_cons e1 ev_nil)) rfl (addP_lst (by simp))
  have e3 : mO2 addP (.ex (mO2 repP (.ex (mLst [mTup [mC (.str "query"), mC (.str "query")]])) (.ex (mC (.int 2))))) (.ex (mO2 repP (.ex (mLst [mTup [mC (.str "order"), mC (.str "order")]])) (.ex (mC (.int 2))))) E = .ok (.lst [tq, tq, tord, tord]) true E := rfl
  exact ev_ifN (ev_T (o := false) (ev_xx e2 e3 rfl))
theorem st16 (h : PlainOk tl ps 5) (h15 : Fr a15) : ∃ z, Fr z ∧ lw16 (lwE a0 (sP pen) a2 a3 (sS (qryD tl ps)) (sS (.lst (sl (nsOf tl)))) a6 a7 a8 a9 a10 a11 a12 a13 a14 a15) = .nx (lwE a0 (sP pen) a2 a3 (sS (qryD tl ps)) (sS (.lst (sl (nsOf tl)))) a6 a7 a8 a9 a10 a11 a12 a13 a14 z) := by
  let E (z : Sl) := lwE a0 (sP pen) a2 a3 (sS (qryD tl ps)) (sS (.lst (sl (nsOf tl)))) a6 a7 a8 a9 a10 a11 a12 a13 a14 z
  have l2 : lenP (.lst (sl (nsOf tl))) = some (.int tl.length, false) := by
    show some (D.int (sl (nsOf tl)).length, false) = _
    rw [slen, List.length_map]
  have t1 : mT (mO2 eqP (.ex (mO1 lenP (.pl 5))) (.ex (mC (.int 3)))) (E a15) = .ok (decide ((tl.length : Int) = 3)) (E a15) :=
    ev_T (o := false) (ev_xx (ev_p (t := .s) rfl l2) (o2 := false) rfl (by
      show some (D.bl (eqD (.int tl.length) (.int 3)), false) = _
      by_cases hh : (tl.length : Int) = 3 <;> simp [eqD, hh]))
  by_cases h3 : (tl.length : Int) = 3
  · rw [decide_eq_true h3] at t1
    have hl : (nsOf tl).length = 3 := by rw [List.length_map]; omega
    obtain ⟨a, b, c, hn⟩ : ∃ a b c, nsOf tl = [a, b, c] := by
      match nsOf tl, hl with
      | [a, b, c], _ => exact ⟨a, b, c, rfl⟩
    have hnd : [a, b, c].Nodup := by rw [← hn]; exact h.nd
    have ⟨d, e, hs⟩ : ∃ d e, sSort [b, c] = [d, e] := by
      have hl := sort_len [b, c]
      match hq : sSort [b, c], hl with
      | [d, e], _ => exact ⟨d, e, rfl⟩
    have hp2 : [d, e].Perm [b, c] := by rw [← hs]; exact sSort_perm _
    let L : List Tr := [.nd true (.nd true (.leaf a) (.leaf e)) (.leaf d), .nd true (.nd true (.leaf a) (.leaf d)) (.leaf e), .nd true (.leaf a) (.nd true (.leaf d) (.leaf e))]
    have tr : c__law_trees 5 [tupS (nsOf tl)] = .ok (.lst (L.map Tr.D)) true none := by rw [hn]; exact trees3 2 hs hnd
    have hL : ∀ u ∈ L, u.leaves.Perm (nsOf tl) ∧ u.steps ≠ [] ∧ u.steps.length ≤ 10 ∧ ∀ s ∈ u.steps, s ≠ [] := by
      have hne : ∀ x : List Str, x ≠ [] → sSort x ≠ [] := fun x h1 h2 => h1 (List.eq_nil_of_length_eq_zero (by rw [← sort_len, h2]; rfl))
      intro u hu
      simp only [L, List.mem_cons, List.not_mem_nil, or_false] at hu
      rw [hn]
      rcases hu with rfl | rfl | rfl
      · refine ⟨?_, by simp [Tr.steps], by simp [Tr.steps], fun s hs => ?_⟩
        · show [a, e, d].Perm [a, b, c]
          exact .cons a ((List.Perm.swap d e []).trans hp2)
        · simp [Tr.steps, Tr.leaves] at hs
          rcases hs with rfl | rfl <;> exact hne _ (by simp)
      · refine ⟨?_, by simp [Tr.steps], by simp [Tr.steps], fun s hs => ?_⟩
        · show [a, d, e].Perm [a, b, c]
          exact .cons a hp2
        · simp [Tr.steps, Tr.leaves] at hs
          rcases hs with rfl | rfl <;> exact hne _ (by simp)
      · refine ⟨?_, by simp [Tr.steps], by simp [Tr.steps], fun s hs => ?_⟩
        · show [a, d, e].Perm [a, b, c]
          exact .cons a hp2
        · simp [Tr.steps, Tr.leaves] at hs
          rcases hs with rfl | rfl <;> exact hne _ (by simp)
    have it : itSq (mCall (c__law_trees 5) [mO1 tupleP (.pl 5)] []) (E a15) = .ok (L.map Tr.D) (E a15) :=
      ev_itL (ev_call (dds := []) (ev_cons (o := false) (ev_p (t := .s) rfl (rfl : tupleP (.lst (sl (nsOf tl))) = some (tupS (nsOf tl), false))) ev_nil) tr)
    have e5 : mLc (.nm 15) [15] (itSq (mCall (c__law_trees 5) [mO1 tupleP (.pl 5)] [])) (mT (mO2 neP (.ex (mO2 ixP (.ex (mO1 sortDP (.ex (mCall c_steps_of [mV 4, mV 15] [])))) (.ex (mC (.int 0))))) (.ex (mTup [])))) (mV 15) (E a15) = .ok (.lst (L.map Tr.D)) true (E none) :=
      ev_lcF (i := 15) (g := Tr.D) (f := Tr.D) (p := fun _ => true) it (fun u hu => by
        obtain ⟨q1, q2, q3, q4⟩ := hL u hu
        obtain ⟨x, rr, hx, s, hs1, rfl⟩ := sort_tups q4 q2 (by omega)
        have so := steps_ok (tl := tl) (ps := ps) q1 (by have := h.le; omega)
        refine ev_T (o := false) (ev_xx (ev_xx (ev_x (ev_call (dds := []) (ev_cons (o := false) (ev_vs rfl) (ev_cons (o := false) (ev_vs rfl) ev_nil)) so) hx) (o2 := false) (y := .int 0) rfl (ixP_l (by decide) rfl)) (o2 := false) (y := .tup []) rfl (neP_tupS (q4 s hs1))) ) (fun u _ _ => ⟨false, rfl⟩) (by simp [E, lwE]) (by decide)
    have t2 : mT (mO2 neP (.ex (mO1 lenP (.ex (mLc (.nm 15) [15] (itSq (mCall (c__law_trees 5) [mO1 tupleP (.pl 5)] [])) (mT (mO2 neP (.ex (mO2 ixP (.ex (mO1 sortDP (.ex (mCall c_steps_of [mV 4, mV 15] [])))) (.ex (mC (.int 0))))) (.ex (mTup [])))) (mV 15))))) (.ex (mC (.int 3)))) (E a15) = .ok false (E none) :=
      ev_T (o := false) (ev_xx (ev_x e5 rfl) (o2 := false) rfl rfl)
    refine ⟨none, rfl, ?_⟩
    exact ev_ifN ((ev_andT t1).trans t2)
  · rw [decide_eq_false h3] at t1
    exact ⟨a15, h15, ev_ifN (ev_andF t1)⟩
end
/-- between two turns -/
def Inv (a0 : Sl) (T : Nat) (e : EV) : Prop := ∃ pen z2 z3 z4 z5 z6 z7 z8 z9 z10 z11 z12 z13 z14 z15, e = lwE a0 (sP pen) z2 z3 z4 z5 z6 z7 z8 z9 z10 z11 z12 z13 z14 z15 ∧ PenOk T pen ∧ ∀ z ∈ [z2, z3, z4, z5, z6, z7, z8, z9, z10, z11, z12, z13, z14, z15], Fr z
theorem turn_ok {a0 : Sl} {T : Nat} {e : EV} (I : Inv a0 T e) (hT : T + 3000 ≤ 1000000) (d : D) : ∃ e1 e2, setTg (.nm 2) d e = some e1 ∧ turnB e1 = .nx e2 ∧ Inv a0 (T + 3000) e2 := by
  obtain ⟨pen, z2, z3, z4, z5, z6, z7, z8, z9, z10, z11, z12, z13, z14, z15, rfl, hp, hf⟩ := I
  simp only [List.forall_mem_cons] at hf
  obtain ⟨f2, f3, f4, f5, f6, f7, f8, f9, f10, f11, f12, f13, f14, f15, -⟩ := hf
  let D2 : Sl := sS d
  obtain ⟨tl, ps, p1, s3, hPl, hp1⟩ := st3 (a0 := a0) (a2 := D2) (a4 := z4) (a5 := z5) (a6 := z6) (a7 := z7) (a8 := z8) (a9 := z9) (a10 := z10) (a11 := z11) (a12 := z12) (a13 := z13) (a14 := z14) (a15 := z15) f3 hp (by omega)
  obtain ⟨t, p2, s5, ht, hp2⟩ := st5 (a0 := a0) (a2 := D2) (a3 := sS (plainD tl ps)) (a4 := sS (qryD tl ps)) (a6 := none) (a8 := z8) (a9 := z9) (a10 := z10) (a11 := z11) (a12 := z12) (a13 := z13) (a14 := z14) (a15 := z15) f7 hp1 (by omega) hPl
  have hne : nsOf tl ≠ [] := fun q => by
    have h1 := hPl.ne
    have h2 := congrArg List.length q
    rw [List.length_map] at h2
    simp at h2
    rw [h2] at h1
    simp at h1
  obtain ⟨n0, r, hn⟩ : ∃ n0 r, nsOf tl = n0 :: r := by
    cases q : nsOf tl with
    | nil => exact absurd q hne
    | cons a b => exact ⟨a, b, rfl⟩
  have s4 := st4 (a0 := a0) (pen := p1) (a2 := D2) (a6 := z6) (a7 := z7) (a8 := z8) (a9 := z9) (a10 := z10) (a11 := z11) (a12 := z12) (a13 := z13) (a14 := z14) (a15 := z15) f4 f5 hPl
  have s6 := st6 (a0 := a0) (pen := p2) (a2 := D2) (a3 := sS (plainD tl ps)) (a4 := sS (qryD tl ps)) (a5 := sS (.lst (sl (nsOf tl)))) (a6 := none) (a9 := z9) (a10 := z10) (a11 := z11) (a12 := z12) (a13 := z13) (a14 := z14) (a15 := z15) f8 hPl ht
  have s7 := st7 (a0 := a0) (pen := p2) (a2 := D2) (a3 := sS (plainD tl ps)) (a6 := none) (a9 := z9) (a10 := z10) (a11 := z11) (a12 := z12) (a13 := z13) (a14 := z14) (a15 := z15) hPl ht
  have s8 := st8 (a0 := a0) (pen := p2) (a2 := D2) (a3 := sS (plainD tl ps)) (a5 := sS (.lst (sl (nsOf tl)))) (a6 := none) (a8 := sS (.tup (t.steps.map tupS))) (a9 := z9) (a10 := z10) (a11 := z11) (a12 := z12) (a13 := z13) (a14 := z14) (a15 := z15) hPl ht
  have s9 := st9 (a0 := a0) (pen := p2) (a2 := D2) (a3 := sS (plainD tl ps)) (a4 := sS (qryD tl ps)) (a6 := none) (a7 := sS t.D) (a8 := sS (.tup (t.steps.map tupS))) (a10 := z10) (a11 := z11) (a12 := z12) (a13 := z13) (a14 := z14) (a15 := z15) (n0 := n0) (r := r) f9
  obtain ⟨y10, g10, s10⟩ := st10 (a0 := a0) (pen := p2) (a2 := D2) (a3 := sS (plainD tl ps)) (a4 := sS (qryD tl ps)) (a6 := none) (a7 := sS t.D) (a8 := sS (.tup (t.steps.map tupS))) (a11 := z11) (a12 := z12) (a13 := z13) (a14 := z14) (a15 := z15) (n0 := n0) (r := r) f10
  have s12 := st12 (a0 := a0) (pen := p2) (a2 := D2) (a3 := sS (plainD tl ps)) (a6 := none) (a7 := sS t.D) (a8 := sS (.tup (t.steps.map tupS))) (a10 := y10) (a12 := z12) (a13 := z13) (a14 := z14) (a15 := z15) hPl hn f11
  rw [← hn] at s9 s10 s12
  let R : Sl := sS (comb (.leaf n0) r).D
  obtain ⟨odd, bad, p3, s13, ho, hb, hp3⟩ := st13 (a0 := a0) (pen := p2) (a2 := D2) (a4 := sS (qryD tl ps)) (a6 := none) (a8 := sS (.tup (t.steps.map tupS))) (a9 := R) (a10 := y10) (a11 := none) (a14 := z14) (a15 := z15) f12 f13 hPl ht hp2 (by omega)
  have s14 := st14 (a0 := a0) (pen := p3) (a2 := D2) (a3 := sS (plainD tl ps)) (a5 := sS (.lst (sl (nsOf tl)))) (a6 := none) (a7 := sS t.D) (a8 := sS (.tup (t.steps.map tupS))) (a9 := R) (a10 := y10) (a11 := none) (a15 := z15) f14 hPl ho hb
  have s15 := st15 (a0 := a0) (pen := p3) (a2 := D2) (a3 := sS (plainD tl ps)) (a5 := sS (.lst (sl (nsOf tl)))) (a6 := none) (a7 := sS t.D) (a8 := sS (.tup (t.steps.map tupS))) (a9 := R) (a10 := y10) (a11 := none) (a12 := sS odd) (a15 := z15) hPl hb
  obtain ⟨y15, g15, s16⟩ := st16 (a0 := a0) (pen := p3) (a2 := D2) (a3 := sS (plainD tl ps)) (a6 := none) (a7 := sS t.D) (a8 := sS (.tup (t.steps.map tupS))) (a9 := R) (a10 := y10) (a11 := none) (a12 := sS odd) (a13 := sS bad) (a14 := some (.lst [tq, tq, tord], .o)) hPl f15
  refine ⟨lwE a0 (sP pen) D2 z3 z4 z5 z6 z7 z8 z9 z10 z11 z12 z13 z14 z15, _, ?_, (ev_seq s3).trans ((ev_seq s4).trans ((ev_seq s5).trans ((ev_seq s6).trans ((ev_seq s7).trans ((ev_seq s8).trans ((ev_seq s9).trans ((ev_seq s10).trans ((ev_seq s12).trans ((ev_seq s13).trans ((ev_seq s14).trans ((ev_seq s15).trans s16))))))))))), ?_⟩
  · unfold setTg
    rw [show freeE (lwE a0 (sP pen) z2 z3 z4 z5 z6 z7 z8 z9 z10 z11 z12 z13 z14 z15) 2 = true from f2]
    rfl
  · refine ⟨p3, _, _, _, _, _, _, _, _, _, _, _, _, _, _, rfl, hp3.mono (by omega), ?_⟩
    simp only [List.forall_mem_cons]
    exact ⟨rfl, rfl, rfl, rfl, rfl, rfl, rfl, rfl, g10, rfl, rfl, rfl, rfl, g15, fun _ h => (nomatch h)⟩
theorem turns_ok {a0 : Sl} : ∀ (ds : List D) {T : Nat} {e : EV}, Inv a0 T e → T + 3000 * ds.length ≤ 1000000 → ∃ e', forE (.nm 2) turnB ds e = .nx e'
  | [], _, e, _, _ => ⟨e, rfl⟩
  | d :: r, T, e, h, hT => by
    rw [List.length_cons] at hT
    obtain ⟨e1, e2, s1, s2, h2⟩ := turn_ok h (by omega) d
    obtain ⟨e3, s3⟩ := turns_ok r h2 (by omega)
    exact ⟨e3, (ev_forC s1 s2).trans s3⟩
theorem pen_ok (ns : List Int) : ∃ pen, c__law_pen [.scr ns] = .ok pen true none ∧ PenOk 0 pen := by
  refine ⟨penD (ns.take 70) 0 0, ?_, ⟨_, 0, 0, rfl, by omega, by omega⟩⟩
  have e : mSl (.ex (mO1 listP (.pl 0))) none (some (mC (.int 70))) [some (.scr ns, .s)] = .ok (.lst ((ns.take 70).map D.int)) true [some (.scr ns, .s)] := by
    have : sliceP (.lst (ns.map D.int)) none (some ((70 : Nat) : Int)) = some (.lst ((ns.take 70).map D.int), true) := by
      show some (D.lst (cutD (ns.map D.int) none (some ((70 : Nat) : Int))), true) = _
      rw [cut_to, List.map_take]
    exact (congrArg (fun z => liftP z [some (D.scr ns, Tag.s)]) this).trans rfl
  refine mk_rt (b := b__law_pen) (e := [some (.scr ns, .s)]) (ev_ret ?_)
  show mDct [(mC (.str "row"), mSl (.ex (mO1 listP (.pl 0))) none (some (mC (.int 70)))), (mC (.str "at"), mC (.int 0)), (mC (.str "rest"), mC (.int 0))] [some (.scr ns, .s)] = _
  simp only [mDct, evP, bindE, mC, e]
  rfl
theorem law_true (ns : List Int) (h : ns.length ≤ 63) : ∃ f, mkFn n_law.length false b_law [.scr ns] = .ok (.bl true) false f := by
  obtain ⟨pen, ep, hp⟩ := pen_ok ns
  let E0 : EV := lwE (sS (.scr ns)) none none none none none none none none none none none none none none none
  let E1 : EV := lwE (sS (.scr ns)) (sP pen) none none none none none none none none none none none none none none
  have s1 : mSet 1 (mCall c__law_pen [mV 0] []) E0 = .nx E1 := ev_set (o := true) (ev_call (dds := []) (ev_cons (o := false) (ev_vs rfl) ev_nil) ep) rfl
  have i1 : Inv (sS (.scr ns)) 0 E1 := ⟨pen, _, _, _, _, _, _, _, _, _, _, _, _, _, _, rfl, hp, by simp only [List.forall_mem_cons]; exact ⟨rfl, rfl, rfl, rfl, rfl, rfl, rfl, rfl, rfl, rfl, rfl, rfl, rfl, rfl, fun _ h => (nomatch h)⟩⟩
  obtain ⟨e', s2⟩ := turns_ok (rngD 0 4) i1 (by decide)
  have s3 : mFor (.nm 2) (mRg1 (mC (.int 4))) turnB E1 = .nx e' := (ev_for (ds := rngD 0 4) (e := E1) rfl).trans s2
  exact ⟨_, mk_rt (b := b_law) (e := e') ((ev_seq s1).trans ((ev_seq s3).trans (ev_ret (o := false) rfl)))⟩
end K39

set_option Elab.async false
set_option linter.all false
set_option maxRecDepth 100000
set_option maxHeartbeats 1000000
open PySem PySem.W PyProof.Rows
set_option maxRecDepth 100000 in
set_option maxHeartbeats 0 in
theorem PySem.Challenge.cw_neverabove_k39_orders_told_and_refused_holds : PySem.Challenge.rw_neverabove_k39_orders_told_and_refused.Holds := by
  w_on; o_law; k_head; (case hw => w_witness2)
  k_fill
  refine DL.walk_lawT (k := 26) (N := K39.n_law) (mb := K39.b_law) (l := PySem.Challenge.rw_neverabove_k39_orders_told_and_refused) rfl (by decide) rfl ⟨rfl, by decide, by decide⟩ (by decide +kernel) (fun w h Y => PySem.W.km_in_of Y) rfl K39.sc_law (fun _ _ _ _ _ _ _ => rfl) K39.law_true ?F
  case F =>
    intro w mg fa h Y KX G hmg
    refine' K39.all_mk rfl KX G hmg ?c0 ?c1 ?c2 ?c3 ?cM ?z_len ?z_all ?z_sorted ?z_abs ?z_zip ?z_range ?z_repr ?z_isinstance ?z_sum ?z_str ?z_list ?z_tuple ?z_int ?z_bool ?z_dict ?z_super ?v_LETTERS ?v_MOST_SIGNS ?v_MOST_COLUMNS ?v_MOST_TABLES ?v4 ?v4l ?v4i ?hn ?ht ?pg_0 ?hd_0 ?po_0 ?sa_0 ?ha_0 ?hm_0 ?n_name ?n_columns ?n_unique ?n_kind ?k_str_0 ?k_list_0 ?k_tuple_0 ?k_int_0 ?k_bool_0 ?k_own_0_0 ?k_own_0_1 ?k_NoneType0_0 ?k_bool0_0 ?k_int0_0 ?k_str0_0 ?k_tuple0_0 ?k_list0_0 ?k_dict0_0 ?mk_0 ?inf_0 ?ini_0 ?ink_0 ?lfT0 ?cofT0 ?kpfT0 ?pg_1 ?hd_1 ?po_1 ?sa_1 ?ha_1 ?hm_1 ?n_tables ?n_pairs ?n_names ?k_str_1 ?k_list_1 ?k_tuple_1 ?k_int_1 ?k_bool_1 ?k_own_1_0 ?k_own_1_1 ?k_NoneType0_1 ?k_bool0_1 ?k_int0_1 ?k_str0_1 ?k_tuple0_1 ?k_list0_1 ?k_dict0_1 ?mk_1 ?inf_1 ?ini_1 ?ink_1 ?lfT1 ?cofT1 ?kpfT1 ?dl ?dli ?el ?eli ?xm0 ?xm1 ?xm2 ?xop ?xtop ?xg_2 ?xk_2 ?xs_2 ?xd_2 ?xa_2 ?xo_2 ?xn_2 ?x_2_2 ?x_2_3 ?xm3_2 ?xL_2 ?xv_2 ?xsa_2 ?xi_2 ?xt_2 ?xkC_2 ?xty_2 ?xve_2 ?xsu_2 ?xmr_2 ?xfn_2 ?xcc_2 ?xcd_2 ?xv2_2 ?xfl_2 ?xco_2 ?xsc_2 ?xev_2 ?xg_3 ?xk_3 ?xs_3 ?xd_3 ?xa_3 ?xo_3 ?xn_3 ?x_3_2 ?x_3_3 ?xm3_3 ?xL_3 ?xv_3 ?xsa_3 ?xi_3 ?xt_3 ?xkC_3 ?xty_3 ?xve_3 ?xsu_3 ?xmr_3 ?xfn_3 ?xcc_3 ?xcd_3 ?xv2_3 ?xfl_3 ?xco_3 ?xsc_3 ?xev_3 ?a_is_name ?lg_is_name ?cog_is_name ?kpg_is_name ?a_is_listed ?lg_is_listed ?cog_is_listed ?kpg_is_listed ?a_ascends ?lg_ascends ?cog_ascends ?kpg_ascends ?a_are_unlike ?lg_are_unlike ?cog_are_unlike ?kpg_are_unlike ?a_are_names ?lg_are_names ?cog_are_names ?kpg_are_names ?a_are_tables ?lg_are_tables ?cog_are_tables ?kpg_are_tables ?a_is_pair ?lg_is_pair ?cog_is_pair ?kpg_is_pair ?a_need_query ?lg_need_query ?cog_need_query ?kpg_need_query ?a_names_in ?lg_names_in ?cog_names_in ?kpg_names_in ?a_is_order ?lg_is_order ?cog_is_order ?kpg_is_order ?a_need_order ?lg_need_order ?cog_need_order ?kpg_need_order ?a_lots_of ?lg_lots_of ?cog_lots_of ?kpg_lots_of ?a_is_chained ?lg_is_chained ?cog_is_chained ?kpg_is_chained ?a_steps_of ?lg_steps_of ?cog_steps_of ?kpg_steps_of ?a_is_chain ?lg_is_chain ?cog_is_chain ?kpg_is_chain ?a__law_pen ?lg__law_pen ?cog__law_pen ?kpg__law_pen ?a__law_draw ?lg__law_draw ?cog__law_draw ?kpg__law_draw ?a__law_pick ?lg__law_pick ?cog__law_pick ?kpg__law_pick ?a__law_words ?lg__law_words ?cog__law_words ?kpg__law_words ?a__law_plain ?lg__law_plain ?cog__law_plain ?kpg__law_plain ?a__law_query ?lg__law_query ?cog__law_query ?kpg__law_query ?a__law_lots ?lg__law_lots ?cog__law_lots ?kpg__law_lots ?a__law_trees ?lg__law_trees ?cog__law_trees ?kpg__law_trees ?a__law_in ?lg__law_in ?cog__law_in ?kpg__law_in ?a__law_steps ?lg__law_steps ?cog__law_steps ?kpg__law_steps ?a__law_is_chain ?lg__law_is_chain ?cog__law_is_chain ?kpg__law_is_chain ?a__law_tree ?lg__law_tree ?cog__law_tree ?kpg__law_tree ?a__law_heard ?lg__law_heard ?cog__law_heard ?kpg__law_heard ?a__law_bent ?lg__law_bent ?cog__law_bent ?kpg__law_bent ?a_gB ?llgB ?lcgB ?lkgB ?logB ?l11gB ?l18gB ?l7gB ?l9gB ?l10gB ?lPgB ?a_gl ?llgl ?lcgl ?lkgl ?logl ?l11gl ?l18gl ?l7gl ?l9gl ?l10gl ?lPgl ?hne ?hrB
    (case c0 => (k_is))
    (case c1 => (k_is))
    (case c2 => (k_is))
    (case c3 => (k_is))
    (case cM => (k_is))
    (case z_len => (k_is))
    (case z_all => (k_is))
    (case z_sorted => (k_is))
    (case z_abs => (k_is))
    (case z_zip => (k_is))
    (case z_range => (k_is))
    (case z_repr => (k_is))
    (case z_isinstance => (k_is))
    (case z_sum => (k_is))
    (case z_str => (k_is))
    (case z_list => (k_is))
    (case z_tuple => (k_is))
    (case z_int => (k_is))
    (case z_bool => (k_is))
    (case z_dict => (k_is))
    (case z_super => (k_is))
    (case v_LETTERS => (k_is))
    (case v_MOST_SIGNS => (k_is))
    (case v_MOST_COLUMNS => (k_is))
    (case v_MOST_TABLES => (k_is))
    (case v4 => (k_is))
    (case v4l => (k_is))
    (case v4i => (rfl))
    (case hn => (k_is))
    (case ht => (k_is))
    (case pg_0 => (k_is))
    (case hd_0 => (k_is))
    (case po_0 => (k_is))
    (case sa_0 => (k_is))
    (case ha_0 => (k_is))
    (case hm_0 => (k_is))
    (case n_name => (k_is))
    (case n_columns => (k_is))
    (case n_unique => (k_is))
    (case n_kind => (k_is))
    (case k_str_0 => (kit_is))
    (case k_list_0 => (kit_is))
    (case k_tuple_0 => (kit_is))
    (case k_int_0 => (kit_is))
    (case k_bool_0 => (kit_is))
    (case k_own_0_0 => (kit_is))
    (case k_own_0_1 => (kit_is))
    (case k_NoneType0_0 => (kit_is))
    (case k_bool0_0 => (kit_is))
    (case k_int0_0 => (kit_is))
    (case k_str0_0 => (kit_is))
    (case k_tuple0_0 => (kit_is))
    (case k_list0_0 => (kit_is))
    (case k_dict0_0 => (kit_is))
    (case mk_0 => (k_is))
    (case inf_0 => (k_is))
    (case ini_0 => (k_is))
    (case ink_0 => (k_is))
    (case lfT0 => (k_is))
    (case cofT0 => (k_is))
    (case kpfT0 => (k_is))
    (case pg_1 => (k_is))
    (case hd_1 => (k_is))
    (case po_1 => (k_is))
    (case sa_1 => (k_is))
    (case ha_1 => (k_is))
    (case hm_1 => (k_is))
    (case n_tables => (k_is))
    (case n_pairs => (k_is))
    (case n_names => (k_is))
    (case k_str_1 => (kit_is))
    (case k_list_1 => (kit_is))
    (case k_tuple_1 => (kit_is))
    (case k_int_1 => (kit_is))
    (case k_bool_1 => (kit_is))
    (case k_own_1_0 => (kit_is))
    (case k_own_1_1 => (kit_is))
    (case k_NoneType0_1 => (kit_is))
    (case k_bool0_1 => (kit_is))
    (case k_int0_1 => (kit_is))
    (case k_str0_1 => (kit_is))
    (case k_tuple0_1 => (kit_is))
    (case k_list0_1 => (kit_is))
    (case k_dict0_1 => (kit_is))
    (case mk_1 => (k_is))
    (case inf_1 => (k_is))
    (case ini_1 => (k_is))
    (case ink_1 => (k_is))
    (case lfT1 => (k_is))
    (case cofT1 => (k_is))
    (case kpfT1 => (k_is))
    (case dl => (k_is))
    (case dli => (rfl))
    (case el => (k_is))
    (case eli => (rfl))
    (case xm0 => (k_is))
    (case xm1 => (k_is))
    (case xm2 => (k_is))
    (case xop => (k_is))
    (case xtop => (rfl))
    (case xg_2 => (k_is))
    (case xk_2 => (k_is))
    (case xs_2 => (k_is))
    (case xd_2 => (k_is))
    (case xa_2 => (k_is))
    (case xo_2 => (k_is))
    (case xn_2 => (k_is))
    (case x_2_2 => (kit_is))
    (case x_2_3 => (kit_is))
    (case xm3_2 => (k_is))
    (case xL_2 => (k_is))
    (case xv_2 => (decide +kernel))
    (case xsa_2 => (k_is))
    (case xi_2 => (k_is))
    (case xt_2 => (k_is))
    (case xkC_2 => (k_is))
    (case xty_2 => (k_is))
    (case xve_2 => (k_is))
    (case xsu_2 => (ks_is))
    (case xmr_2 => (k_is))
    (case xfn_2 => (k_is))
    (case xcc_2 => (k_is))
    (case xcd_2 => (k_is))
    (case xv2_2 => (rfl))
    (case xfl_2 => (rfl))
    (case xco_2 => (k_is))
    (case xsc_2 => (exact ⟨rfl, rfl, rfl, rfl, rfl, rfl, rfl, by decide +kernel, by decide +kernel, by decide +kernel⟩))
    (case xev_2 => (exact fun env => ⟨_, rfl⟩))
    (case xg_3 => (k_is))
    (case xk_3 => (k_is))
    (case xs_3 => (k_is))
    (case xd_3 => (k_is))
    (case xa_3 => (k_is))
    (case xo_3 => (k_is))
    (case xn_3 => (k_is))
    (case x_3_2 => (kit_is))
    (case x_3_3 => (kit_is))
    (case xm3_3 => (k_is))
    (case xL_3 => (k_is))
    (case xv_3 => (decide +kernel))
    (case xsa_3 => (k_is))
    (case xi_3 => (k_is))
    (case xt_3 => (k_is))
    (case xkC_3 => (k_is))
    (case xty_3 => (k_is))
    (case xve_3 => (k_is))
    (case xsu_3 => (ks_is))
    (case xmr_3 => (k_is))
    (case xfn_3 => (k_is))
    (case xcc_3 => (k_is))
    (case xcd_3 => (k_is))
    (case xv2_3 => (rfl))
    (case xfl_3 => (rfl))
    (case xco_3 => (k_is))
    (case xsc_3 => (exact ⟨rfl, rfl, rfl, rfl, rfl, rfl, rfl, by decide +kernel, by decide +kernel, by decide +kernel⟩))
    (case xev_3 => (exact fun env => ⟨_, rfl⟩))
    (case a_is_name => (k_is))
    (case lg_is_name => (k_is))
    (case cog_is_name => (k_is))
    (case kpg_is_name => (k_is))
    (case a_is_listed => (k_is))
    (case lg_is_listed => (k_is))
    (case cog_is_listed => (k_is))
    (case kpg_is_listed => (k_is))
    (case a_ascends => (k_is))
    (case lg_ascends => (k_is))
    (case cog_ascends => (k_is))
    (case kpg_ascends => (k_is))
    (case a_are_unlike => (k_is))
    (case lg_are_unlike => (k_is))
    (case cog_are_unlike => (k_is))
    (case kpg_are_unlike => (k_is))
    (case a_are_names => (k_is))
    (case lg_are_names => (k_is))
    (case cog_are_names => (k_is))
    (case kpg_are_names => (k_is))
    (case a_are_tables => (k_is))
    (case lg_are_tables => (k_is))
    (case cog_are_tables => (k_is))
    (case kpg_are_tables => (k_is))
    (case a_is_pair => (k_is))
    (case lg_is_pair => (k_is))
    (case cog_is_pair => (k_is))
    (case kpg_is_pair => (k_is))
    (case a_need_query => (k_is))
    (case lg_need_query => (k_is))
    (case cog_need_query => (k_is))
    (case kpg_need_query => (k_is))
    (case a_names_in => (k_is))
    (case lg_names_in => (k_is))
    (case cog_names_in => (k_is))
    (case kpg_names_in => (k_is))
    (case a_is_order => (k_is))
    (case lg_is_order => (k_is))
    (case cog_is_order => (k_is))
    (case kpg_is_order => (k_is))
    (case a_need_order => (k_is))
    (case lg_need_order => (k_is))
    (case cog_need_order => (k_is))
    (case kpg_need_order => (k_is))
    (case a_lots_of => (k_is))
    (case lg_lots_of => (k_is))
    (case cog_lots_of => (k_is))
    (case kpg_lots_of => (k_is))
    (case a_is_chained => (k_is))
    (case lg_is_chained => (k_is))
    (case cog_is_chained => (k_is))
    (case kpg_is_chained => (k_is))
    (case a_steps_of => (k_is))
    (case lg_steps_of => (k_is))
    (case cog_steps_of => (k_is))
    (case kpg_steps_of => (k_is))
    (case a_is_chain => (k_is))
    (case lg_is_chain => (k_is))
    (case cog_is_chain => (k_is))
    (case kpg_is_chain => (k_is))
    (case a__law_pen => (k_is))
    (case lg__law_pen => (k_is))
    (case cog__law_pen => (k_is))
    (case kpg__law_pen => (k_is))
    (case a__law_draw => (k_is))
    (case lg__law_draw => (k_is))
    (case cog__law_draw => (k_is))
    (case kpg__law_draw => (k_is))
    (case a__law_pick => (k_is))
    (case lg__law_pick => (k_is))
    (case cog__law_pick => (k_is))
    (case kpg__law_pick => (k_is))
    (case a__law_words => (k_is))
    (case lg__law_words => (k_is))
    (case cog__law_words => (k_is))
    (case kpg__law_words => (k_is))
    (case a__law_plain => (k_is))
    (case lg__law_plain => (k_is))
    (case cog__law_plain => (k_is))
    (case kpg__law_plain => (k_is))
    (case a__law_query => (k_is))
    (case lg__law_query => (k_is))
    (case cog__law_query => (k_is))
    (case kpg__law_query => (k_is))
    (case a__law_lots => (k_is))
    (case lg__law_lots => (k_is))
    (case cog__law_lots => (k_is))
    (case kpg__law_lots => (k_is))
    (case a__law_trees => (k_is))
    (case lg__law_trees => (k_is))
    (case cog__law_trees => (k_is))
    (case kpg__law_trees => (k_is))
    (case a__law_in => (k_is))
    (case lg__law_in => (k_is))
    (case cog__law_in => (k_is))
    (case kpg__law_in => (k_is))
    (case a__law_steps => (k_is))
    (case lg__law_steps => (k_is))
    (case cog__law_steps => (k_is))
    (case kpg__law_steps => (k_is))
    (case a__law_is_chain => (k_is))
    (case lg__law_is_chain => (k_is))
    (case cog__law_is_chain => (k_is))
    (case kpg__law_is_chain => (k_is))
    (case a__law_tree => (k_is))
    (case lg__law_tree => (k_is))
    (case cog__law_tree => (k_is))
    (case kpg__law_tree => (k_is))
    (case a__law_heard => (k_is))
    (case lg__law_heard => (k_is))
    (case cog__law_heard => (k_is))
    (case kpg__law_heard => (k_is))
    (case a__law_bent => (k_is))
    (case lg__law_bent => (k_is))
    (case cog__law_bent => (k_is))
    (case kpg__law_bent => (k_is))
    (case a_gB => (k_is))
    (case llgB => (k_is))
    (case lcgB => (k_is))
    (case lkgB => (k_is))
    (case logB => (k_is))
    (case l11gB => (rfl))
    (case l18gB => (rfl))
    (case l7gB => (rfl))
    (case l9gB => (rfl))
    (case l10gB => (rfl))
    (case lPgB => (first | rfl | kernel_rfl | decide +kernel))
    (case a_gl => (k_is))
    (case llgl => (k_is))
    (case lcgl => (k_is))
    (case lkgl => (k_is))
    (case logl => (k_is))
    (case l11gl => (rfl))
    (case l18gl => (rfl))
    (case l7gl => (rfl))
    (case l9gl => (rfl))
    (case l10gl => (rfl))
    (case lPgl => (first | rfl | kernel_rfl | decide +kernel))
    (case hne => (decide))
    (case hrB => (decide +kernel))

