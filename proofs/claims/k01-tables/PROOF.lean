import PyProof.Rows.All
import Wide.All
import OpenK.AllK
import Wide.FinOn
import HandS.ForMost
import HandS.WordsExc
import HandS.Lambda
import HandS.CallSlots
import HandS.Flow
import HandS.TupAny
import HandS.Wide
import HandS.IsInst
import HandS.Style
import HandS.Zip
import HandS.ExcOwn
import HandS.Words
import HandS.Text
import KE.KExcSuper
import HandS.ExcValue
import HandS.ExcIs
import PyProof.ReprRoads
import PyProof.InstEq
import HandS.MakeKw
import HandS.EndTab
import HandS.EndOwn
import KE.RegKIsAll
import KE.RegKSuper
import PySem.Challenge.RW_neverabove_k01_tables_made_and_refused
set_option Elab.async false
set_option linter.all false
set_option maxRecDepth 100000
set_option maxHeartbeats 1000000
/-! DL1: data without addresses (D), how a value stands for data (Rep), what a frame owns (Own), the state of a frame (SI). -/
namespace DL
open PySem L2

/-- data: values without addresses -/
inductive D where
  | non | bl (b : Bool) | int (i : Int) | str (x : Str)
  | tup (xs : List D) | lst (xs : List D) | dct (kvs : List (Key × D)) | dtt (kvs : List (List Key × D))
  | obj (c : Nat) (fs : List D)
  | scr (ns : List Int)
  | exc (c : Nat) (fs : List D)
  | thk (f : Addr) (H1 : Hp) (S1 : Addr → Prop)

/-- what is fixed through a law: the written part, where the classes stand -/
structure Ctx where
  K : PySem.W.Frag
  C : Nat → Addr
  /-- the fields' names, in the order in which they are stored -/
  F : Nat → List Str
  /-- the tables of code objects of those who make lambdas -/
  T : List (Addr × Str)

abbrev Sset := Addr → Prop

/-- a tuple of the written part -/
def KTup (K : PySem.W.Frag) (a : Addr) (xs : List V) : Prop :=
  ∃ (o : Obj) (its : Array Value) (n : Nat), K.lookup a = some o ∧ o.cls = .type "tuple" ∧ o.data = .seq its n ∧ its.size ≤ sizeLine ∧ Vals xs its.toList

/-- a list of the written part -/
def KLst (K : PySem.W.Frag) (a : Addr) (xs : List V) : Prop :=
  ∃ (o : Obj) (its : Array Value) (n : Nat), K.lookup a = some o ∧ o.cls = .type "list" ∧ o.dict = none ∧ o.data = .seq its n ∧ its.size ≤ sizeLine ∧ Vals xs its.toList
/-- an exception that is held as a value: its class, its dict -/
def ExD (cls : Value) (a dd : Addr) : HO := .ext fun h => ∃ (oe : Obj) (vs : Array Value), h.get? a = some oe ∧ oe.cls = cls ∧ oe.dict = some dd ∧ oe.data = .fields vs

/-- a text that can stand: not too long, of code points -/
def sOk (x : Str) : Prop := x.length ≤ sizeLine ∧ PyData.strOk x = true
instance (x : Str) : Decidable (sOk x) := inferInstanceAs (Decidable (_ ∧ _))
def keyOk : Key → Prop
  | .inl _ => True
  | .inr x => sOk x

/-- what is shared stays as it was -/
def Grow (S : Sset) (H : Hp) (S' : Sset) (H' : Hp) : Prop := ∀ a, S a → S' a ∧ H' a = H a
theorem Grow.rfl' {S : Sset} {H : Hp} : Grow S H S H := fun _ h => ⟨h, rfl⟩
theorem Grow.trans {S S1 S2 : Sset} {H H1 H2 : Hp} (a : Grow S H S1 H1) (b : Grow S1 H1 S2 H2) : Grow S H S2 H2 := fun c h =>
  let ⟨h1, e1⟩ := a c h; let ⟨h2, e2⟩ := b c h1; ⟨h2, e2.trans e1⟩

mutual
/-- v stands for d: all that is met lies in S, which nobody changes any more -/
inductive Rep (G : Ctx) (H : Hp) (S : Sset) : V → D → Prop
  | non : Rep G H S .non .non
  | bl {b} : Rep G H S (.bl b) (.bl b)
  | int {i} : Rep G H S (.int i) (.int i)
  | str {x} : sOk x → Rep G H S (.str x) (.str x)
  | tup {a vs ds} : S a → H a = some (.tup vs) → vs.length ≤ sizeLine → RepL G H S vs ds → Rep G H S (.ref a) (.tup ds)
  | ktup {a vs ds} : KTup G.K a vs → RepL G H S vs ds → Rep G H S (.ref a) (.tup ds)
  | lst {a vs ds} : S a → H a = some (.lst vs) → vs.length ≤ sizeLine → RepL G H S vs ds → Rep G H S (.ref a) (.lst ds)
  | dct {a vs ds} : S a → H a = some (.dK vs) → vs.length ≤ sizeLine → RepK G H S vs ds → Rep G H S (.ref a) (.dct ds)
  | dtt {a vs ds} : S a → H a = some (.dT vs) → vs.length ≤ sizeLine → RepT G H S vs ds → Rep G H S (.ref a) (.dtt ds)
  | obj {a c dx vs ds} : S a → H a = some (.ins (G.C c) dx ((G.F c).zip vs)) → vs.length ≤ (G.F c).length → RepL G H S vs ds → Rep G H S (.ref a) (.obj c ds)
  | scr {a o ns} : S a → H a = some (.frz o (.lst (ns.map V.int))) → ns.length ≤ sizeLine → Rep G H S (.ref a) (.scr ns)
  | kscr {a ns} : KLst G.K a (ns.map V.int) → ns.length ≤ sizeLine → Rep G H S (.ref a) (.scr ns)
  | exc {a c dd vs ds} : S a → S dd → H a = some (ExD (.ref (G.C c)) a dd) → H dd = some (.xd ((G.F c).zip vs)) → vs.length ≤ (G.F c).length → RepL G H S vs ds → Rep G H S (.ref a) (.exc c ds)
  | thk {f H1 S1} : Grow S1 H1 S H → Rep G H S (.ref f) (.thk f H1 S1)
inductive RepL (G : Ctx) (H : Hp) (S : Sset) : List V → List D → Prop
  | nil : RepL G H S [] []
  | cons {v d vs ds} : Rep G H S v d → RepL G H S vs ds → RepL G H S (v :: vs) (d :: ds)
inductive RepK (G : Ctx) (H : Hp) (S : Sset) : List (Key × V) → List (Key × D) → Prop
  | nil : RepK G H S [] []
  | cons {k v d vs ds} : keyOk k → Rep G H S v d → RepK G H S vs ds → RepK G H S ((k, v) :: vs) ((k, d) :: ds)
inductive RepT (G : Ctx) (H : Hp) (S : Sset) : List (List Key × V) → List (List Key × D) → Prop
  | nil : RepT G H S [] []
  | cons {k v d vs ds} : (∀ x ∈ k, keyOk x) → Rep G H S v d → RepT G H S vs ds → RepT G H S ((k, v) :: vs) ((k, d) :: ds)
end

section
variable {G : Ctx} {H H' : Hp} {S S' : Sset}
mutual
theorem Rep.mono (g : Grow S H S' H') : ∀ {v : V} {d : D}, Rep G H S v d → Rep G H' S' v d
  | _, _, .non => .non
  | _, _, .bl => .bl
  | _, _, .int => .int
  | _, _, .str h => .str h
  | _, _, .tup s h l r => .tup (g _ s).1 ((g _ s).2.trans h) l (RepL.mono g r)
  | _, _, .ktup k r => .ktup k (RepL.mono g r)
  | _, _, .lst s h l r => .lst (g _ s).1 ((g _ s).2.trans h) l (RepL.mono g r)
  | _, _, .dct s h l r => .dct (g _ s).1 ((g _ s).2.trans h) l (RepK.mono g r)
  | _, _, .dtt s h l r => .dtt (g _ s).1 ((g _ s).2.trans h) l (RepT.mono g r)
  | _, _, .obj s h l r => .obj (g _ s).1 ((g _ s).2.trans h) l (RepL.mono g r)
  | _, _, .scr s h l => .scr (g _ s).1 ((g _ s).2.trans h) l
  | _, _, .kscr h l => .kscr h l
  | _, _, .exc s s2 h h2 l r => .exc (g _ s).1 (g _ s2).1 ((g _ s).2.trans h) ((g _ s2).2.trans h2) l (RepL.mono g r)
  | _, _, .thk h => .thk (h.trans g)
theorem RepL.mono (g : Grow S H S' H') : ∀ {v : List V} {d : List D}, RepL G H S v d → RepL G H' S' v d
  | _, _, .nil => .nil
  | _, _, .cons a b => .cons (Rep.mono g a) (RepL.mono g b)
theorem RepK.mono (g : Grow S H S' H') : ∀ {v : List (Key × V)} {d : List (Key × D)}, RepK G H S v d → RepK G H' S' v d
  | _, _, .nil => .nil
  | _, _, .cons k a b => .cons k (Rep.mono g a) (RepK.mono g b)
theorem RepT.mono (g : Grow S H S' H') : ∀ {v : List (List Key × V)} {d : List (List Key × D)}, RepT G H S v d → RepT G H' S' v d
  | _, _, .nil => .nil
  | _, _, .cons k a b => .cons k (Rep.mono g a) (RepT.mono g b)
end
end

/-- what stands at a root: its content, all below it shared -/
def At (G : Ctx) (H : Hp) (S : Sset) (a : Addr) : D → Prop
  | .lst ds => ∃ vs, H a = some (.lst vs) ∧ vs.length ≤ sizeLine ∧ RepL G H S vs ds
  | .dct ds => ∃ vs, H a = some (.dK vs) ∧ vs.length ≤ sizeLine ∧ RepK G H S vs ds
  | .dtt ds => ∃ vs, H a = some (.dT vs) ∧ vs.length ≤ sizeLine ∧ RepT G H S vs ds
  | .obj c ds => ∃ dx vs, H a = some (.ins (G.C c) dx ((G.F c).zip vs)) ∧ vs.length ≤ (G.F c).length ∧ RepL G H S vs ds
  | _ => False
/-- a root that its holder may change -/
def Own (G : Ctx) (H : Hp) (S : Sset) (a : Addr) (d : D) : Prop := ¬ S a ∧ At G H S a d
theorem At.mono {G : Ctx} {H H' : Hp} {S S' : Sset} {a : Addr} {d : D} (g : Grow S H S' H') (e : H' a = H a) (h : At G H S a d) : At G H' S' a d := by
  cases d <;> first
    | exact h.elim
    | exact (let ⟨vs, h1, hl, h2⟩ := h; ⟨vs, e.trans h1, hl, h2.mono g⟩)
    | exact (let ⟨dx, vs, h1, hl, h2⟩ := h; ⟨dx, vs, e.trans h1, hl, h2.mono g⟩)
/-- no table of code objects -/
def NT (o : HO) : Prop := ∀ ps, o ≠ .tbl ps
theorem At.nt {G : Ctx} {H : Hp} {S : Sset} {a : Addr} {d : D} (h : At G H S a d) : ∀ ps, H a ≠ some (.tbl ps) := fun ps z => by
  cases d <;> first
    | exact h.elim
    | (obtain ⟨_, h1, _⟩ := h; rw [z] at h1; cases h1)
    | (obtain ⟨_, _, h1, _⟩ := h; rw [z] at h1; cases h1)
theorem At.some {G : Ctx} {H : Hp} {S : Sset} {a : Addr} {d : D} (h : At G H S a d) : ∃ o, H a = some o := by
  cases d <;> first
    | exact h.elim
    | exact (let ⟨_, h1, _⟩ := h; ⟨_, h1⟩)
    | exact (let ⟨_, _, h1, _⟩ := h; ⟨_, h1⟩)
/-- a read root: shared, or owned -/
def RepB (G : Ctx) (H : Hp) (S : Sset) (v : V) (d : D) : Prop := Rep G H S v d ∨ ∃ a, v = .ref a ∧ At G H S a d
theorem At.rep {G : Ctx} {H : Hp} {S : Sset} {a : Addr} {d : D} (h : At G H S a d) (s : S a) : Rep G H S (.ref a) d := by
  cases d <;> first
    | exact h.elim
    | exact (let ⟨vs, h1, hl, h2⟩ := h; .lst s h1 hl h2)
    | exact (let ⟨vs, h1, hl, h2⟩ := h; .dct s h1 hl h2)
    | exact (let ⟨vs, h1, hl, h2⟩ := h; .dtt s h1 hl h2)
    | exact (let ⟨dx, vs, h1, hl, h2⟩ := h; .obj s h1 hl h2)

/-! ### the frame's state -/
/-- a slot: shared, owned, handed in to be changed -/
inductive Tag where
  | s | o | p
  deriving DecidableEq
abbrev EV := List (Option (D × Tag))
/-- the ghost of a def's entry: the heap, what was shared, the root that was handed in to be changed (it stands in slot 0) -/
structure Gh where
  H0 : Hp
  S0 : Sset
  fa : Option Addr
  inF : Bool
/-- an address of this frame's own -/
def Gh.Ok (g : Gh) (a : Addr) : Prop := g.H0 a = none ∨ g.fa = some a

theorem At.ne_ext {G : Ctx} {H : Hp} {S : Sset} {a : Addr} {d : D} (h : At G H S a d) : ∀ φ, H a ≠ Option.some (HO.ext φ) := fun φ z => by
  cases d <;> first
    | exact h.elim
    | (obtain ⟨_, h1, _⟩ := h; rw [z] at h1; cases h1)
    | (obtain ⟨_, _, h1, _⟩ := h; rw [z] at h1; cases h1)
theorem tabs_upd {T : List (Addr × Str)} {H : Hp} {a : Addr} {o : HO} (t : LamX.Tabs T H) (h : ∀ ps, H a ≠ some (.tbl ps)) (h' : ∀ φ, H a ≠ Option.some (HO.ext φ)) : LamX.Tabs T (L2.upd H a o) := fun p hp => by
  obtain ⟨ps, h1, h2, h3⟩ := t p hp
  refine ⟨ps, by rw [upd_ne (show p.1 ≠ a from fun z => h ps (z ▸ h1))]; exact h1, h2, fun pos cv hc => ?_⟩
  obtain ⟨c, e1, e2⟩ := h3 pos cv hc
  exact ⟨c, e1, by rw [upd_ne (show c ≠ a from fun z => h' _ (z ▸ e2))]; exact e2⟩
/-- it stands; a table may have grown -/
def Keep (H : Hp) (a : Addr) (o : HO) : Prop := H a = some o ∨ ((∃ ps, o = .tbl ps) ∧ ∃ ps, H a = some (.tbl ps))
theorem Keep.nt {H : Hp} {a : Addr} {o : HO} (k : Keep H a o) (n : ∀ ps, some o ≠ some (HO.tbl ps)) : H a = some o := k.elim id fun ⟨⟨ps, z⟩, _⟩ => absurd (congrArg some z) (n ps)
theorem Keep.ne {H : Hp} {a : Addr} {o : HO} (k : Keep H a o) : H a ≠ none := fun z => by
  rcases k with k | ⟨_, _, k⟩ <;> rw [z] at k <;> cases k
def Ext1 (H H' : Hp) : Prop := ∀ a o, H a = some o → Keep H' a o
theorem Keep.ext {H H' : Hp} {a : Addr} {o : HO} (k : Keep H a o) (e : Ext1 H H') : Keep H' a o := by
  rcases k with k | ⟨z, ps, k⟩
  · exact e a o k
  · rcases e a _ k with q | ⟨_, q⟩
    · exact .inr ⟨z, ps, q⟩
    · exact .inr ⟨z, q⟩
structure SI (G : Ctx) (g : Gh) (σ : St) (H : Hp) (env : EV) (S : Sset) (P : List (Addr × D)) : Prop where
  len : env.length = σ.length
  shr : ∀ (i : Nat) (d : D), env[i]? = some (some (d, .s)) → ∃ v, σ[i]? = some (some v) ∧ Rep G H S v d
  own : ∀ (i : Nat) (d : D) (t : Tag), t ≠ .s → env[i]? = some (some (d, t)) → ∃ a, σ[i]? = some (some (.ref a)) ∧ Own G H S a d ∧ g.Ok a
  uniq : ∀ (i j : Nat) (d e : D) (t u : Tag) (a : Addr), t ≠ .s → u ≠ .s → env[i]? = some (some (d, t)) → env[j]? = some (some (e, u)) → σ[i]? = some (some (.ref a)) → σ[j]? = some (some (.ref a)) → i = j
  pin : ∀ (i : Nat) (d : D), env[i]? = some (some (d, .p)) → i = 0 ∧ ∃ a, σ[0]? = some (some (.ref a)) ∧ g.fa = some a
  pin0 : ∀ a, g.fa = some a → g.inF = true → ∃ d, env[0]? = some (some (d, .p))
  pend : ∀ p ∈ P, Own G H S p.1 p.2 ∧ g.Ok p.1
  pun : (P.map (·.1)).Nodup
  pdis : ∀ p ∈ P, ∀ (i : Nat) (d : D) (t : Tag), t ≠ .s → env[i]? = some (some (d, t)) → σ[i]? ≠ some (some (.ref p.1))
  fr : ∀ a o, g.H0 a = some o → g.fa ≠ some a → Keep H a o
  sh0 : ∀ a, g.S0 a → S a
  sh1 : ∀ a, S a → g.S0 a ∨ g.H0 a = none ∨ g.fa = some a ∨ ∃ φ, g.H0 a = some (.ext φ)
  shH : ∀ a, S a → ∃ o, H a = some o
  tab : LamX.Tabs G.T H
  nt : ∀ a, S a → ∀ ps, H a ≠ some (.tbl ps)
/-- what is shared stands, and is no table; the tables of code objects -/
def ShOk (G : Ctx) (H : Hp) (S : Sset) : Prop := (∀ a, S a → ∃ o, H a = some o) ∧ LamX.Tabs G.T H ∧ ∀ a, S a → ∀ ps, H a ≠ some (.tbl ps)
theorem SI.sho {G : Ctx} {g : Gh} {σ : St} {H : Hp} {env : EV} {S : Sset} {P : List (Addr × D)} (I : SI G g σ H env S P) : ShOk G H S := ⟨I.shH, I.tab, I.nt⟩
/-- all that was tracked stands -/
def Ext (H H' : Hp) : Prop := ∀ a o, H a = some o → H' a = some o
theorem Ext.rfl' {H : Hp} : Ext H H := fun _ _ h => h
theorem Ext.trans {H H1 H2 : Hp} (a : Ext H H1) (b : Ext H1 H2) : Ext H H2 := fun c o h => b c o (a c o h)
theorem Ext.one {H H' : Hp} (e : Ext H H') : Ext1 H H' := fun a o h => .inl (e a o h)
theorem Ext.upd {H : Hp} {p : Addr} {o : HO} (h : H p = none) : Ext H (L2.upd H p o) := fun a u e => by rw [upd_ne (ne_of_none e h)]; exact e
def Or1 (S : Sset) (N : Sset) : Sset := fun a => S a ∨ N a
abbrev One (a : Addr) : Sset := fun b => b = a
abbrev Nul : Sset := fun _ => False

section
variable {G : Ctx} {g : Gh} {σ : St} {H H' : Hp} {env : EV} {S N : Sset} {P : List (Addr × D)} {a : Addr} {d : D}
theorem SI.grow1 (I : SI G g σ H env S P) (e : Ext1 H H') (S' : Sset) (hs : ∀ b, S b → S' b) : Grow S H S' H' := fun b hb => by
  obtain ⟨o, ho⟩ := I.shH b hb
  exact ⟨hs b hb, ((e b o ho).nt fun ps z => I.nt b hb ps (ho.trans z)).trans ho.symm⟩
theorem SI.grow (I : SI G g σ H env S P) (e : Ext H H') (S' : Sset) (hs : ∀ b, S b → S' b) : Grow S H S' H' := fun b hb => by
  obtain ⟨o, ho⟩ := I.shH b hb
  exact ⟨hs b hb, (e b o ho).trans ho.symm⟩
theorem SI.notN (I : SI G g σ H env S P) {b : Addr} {o : HO} (ho : H b = some o) (hN : ∀ b, N b → H b = none) : ¬ N b := fun h => by
  have := hN b h; rw [this] at ho; cases ho
/-- new objects: N shared, the result owned or not -/
theorem SI.ext (I : SI G g σ H env S P) (e : Ext H H') (hN : ∀ b, N b → H b = none ∧ ∃ o, H' b = some o ∧ NT o) : SI G g σ H' env (Or1 S N) P := by
  have gr : Grow S H (Or1 S N) H' := I.grow e _ fun b h => .inl h
  have ow : ∀ b d, Own G H S b d → Own G H' (Or1 S N) b d := fun b d ⟨h1, h2⟩ => by
    obtain ⟨o, ho⟩ := h2.some
    exact ⟨fun h => h.elim h1 (I.notN ho fun c hc => (hN c hc).1), h2.mono gr ((e b o ho).trans ho.symm)⟩
  refine ⟨I.len, fun i d h => ?_, fun i d t ht h => ?_, I.uniq, I.pin, I.pin0, fun p hp => ⟨ow _ _ (I.pend p hp).1, (I.pend p hp).2⟩, I.pun, I.pdis, fun b o h1 h2 => (I.fr b o h1 h2).ext e.one, fun b h => .inl (I.sh0 b h), fun b h => ?_, fun b h => ?_, I.tab.ext e, fun b h ps z => ?_⟩
  · obtain ⟨v, h1, h2⟩ := I.shr i d h
    exact ⟨v, h1, h2.mono gr⟩
  · obtain ⟨a, h1, h2, h3⟩ := I.own i d t ht h
    exact ⟨a, h1, ow _ _ h2, h3⟩
  · rcases h with h | h
    · exact I.sh1 b h
    · refine .inr ?_
      cases q : g.H0 b with
      | none => exact .inl rfl
      | some o =>
        refine .inr (.inl (Classical.byContradiction fun hf => ?_))
        exact (I.fr b o q hf).ne (hN b h).1
  · rcases h with h | h
    · obtain ⟨o, ho⟩ := I.shH b h
      exact ⟨o, e _ _ ho⟩
    · obtain ⟨o, ho, _⟩ := (hN b h).2
      exact ⟨o, ho⟩
  · rcases h with h | h
    · obtain ⟨o, ho⟩ := I.shH b h
      rw [e _ _ ho] at z
      exact I.nt b h ps (ho.trans z)
    · obtain ⟨o, ho, n⟩ := (hN b h).2
      rw [ho] at z
      exact n ps (Option.some.inj z)
theorem SI.okNew (I : SI G g σ H env S P) (hn : H a = none) : g.Ok a := by
  unfold Gh.Ok
  cases q : g.H0 a with
  | none => exact .inl rfl
  | some o =>
    refine .inr (Classical.byContradiction fun hf => ?_)
    exact (I.fr a o q hf).ne hn
/-- a new owned root -/
theorem SI.push (I : SI G g σ H env S P) (ho : Own G H S a d) (ok : g.Ok a) (hp : ∀ p ∈ P, p.1 ≠ a) (hv : ∀ (i : Nat) (d : D) (t : Tag), t ≠ .s → env[i]? = some (some (d, t)) → σ[i]? ≠ some (some (.ref a))) : SI G g σ H env S ((a, d) :: P) := by
  refine ⟨I.len, I.shr, I.own, I.uniq, I.pin, I.pin0, fun p hp' => ?_, ?_, fun p hp' => ?_, I.fr, I.sh0, I.sh1, I.shH, I.tab, I.nt⟩
  · rcases List.mem_cons.mp hp' with rfl | h
    · exact ⟨ho, ok⟩
    · exact I.pend p h
  · rw [List.map_cons, List.nodup_cons]
    refine ⟨fun h => ?_, I.pun⟩
    obtain ⟨q, hq, e⟩ := List.mem_map.mp h
    exact hp q hq e
  · rcases List.mem_cons.mp hp' with rfl | h
    · exact hv
    · exact I.pdis p h
theorem SI.pop (I : SI G g σ H env S ((a, d) :: P)) : SI G g σ H env S P :=
  ⟨I.len, I.shr, I.own, I.uniq, I.pin, I.pin0, fun p hp => I.pend p (List.mem_cons_of_mem _ hp), (List.nodup_cons.mp (by have := I.pun; rwa [List.map_cons] at this)).2, fun p hp => I.pdis p (List.mem_cons_of_mem _ hp), I.fr, I.sh0, I.sh1, I.shH, I.tab, I.nt⟩
/-- new objects and a new owned root -/
theorem SI.extOwn (I : SI G g σ H env S P) (e : Ext H H') (hN : ∀ b, N b → H b = none ∧ ∃ o, H' b = some o ∧ NT o) (ha : H a = none) (hnN : ¬ N a) (hat : At G H' (Or1 S N) a d) : SI G g σ H' env (Or1 S N) ((a, d) :: P) := by
  have na : ¬ S a := fun h => by
    obtain ⟨o, ho⟩ := I.shH a h
    rw [ha] at ho; cases ho
  refine (I.ext e hN).push ⟨fun h => h.elim na hnN, hat⟩ (I.okNew ha) (fun p hp q => ?_) fun i d t ht h q => ?_
  · obtain ⟨o, ho⟩ := (I.pend p hp).1.2.some
    rw [q, ha] at ho; cases ho
  · obtain ⟨b, h1, h2, _⟩ := I.own i d t ht h
    rw [h1] at q
    injection q with q; injection q with q; injection q with q
    obtain ⟨o, ho⟩ := h2.2.some
    rw [q, ha] at ho; cases ho
theorem sh1_ok (ok : g.Ok a) : g.S0 a ∨ g.H0 a = none ∨ g.fa = some a ∨ ∃ φ, g.H0 a = some (.ext φ) := ok.elim (fun h => .inr (.inl h)) fun h => .inr (.inr (.inl h))
theorem SI.sh1_ext (I : SI G g σ H env S P) {φ} (h : H a = some (.ext φ)) : g.S0 a ∨ g.H0 a = none ∨ g.fa = some a ∨ ∃ φ, g.H0 a = some (.ext φ) := by
  cases q : g.H0 a with
  | none => exact .inr (.inl rfl)
  | some o =>
    by_cases hf : g.fa = some a
    · exact .inr (.inr (.inl hf))
    · rcases I.fr a o q hf with k | ⟨_, ps, k⟩
      · rw [h] at k; injection k with k; subst k
        exact .inr (.inr (.inr ⟨φ, rfl⟩))
      · rw [h] at k; cases k
theorem grow_one (S : Sset) (H : Hp) : Grow S H (Or1 S (One a)) H := fun _ h => ⟨.inl h, rfl⟩
theorem own_one {b : Addr} (hb : b ≠ a) (h : Own G H S b d) : Own G H (Or1 S (One a)) b d := ⟨fun q => q.elim h.1 hb, h.2.mono (grow_one S H) rfl⟩
/-- a pending root is given away -/
theorem SI.freeze (I : SI G g σ H env S ((a, d) :: P)) : SI G g σ H env (Or1 S (One a)) P ∧ Rep G H (Or1 S (One a)) (.ref a) d := by
  have ha := I.pend (a, d) List.mem_cons_self
  have nd : a ∉ P.map (·.1) := (List.nodup_cons.mp (by have := I.pun; rwa [List.map_cons] at this)).1
  obtain ⟨o, ho⟩ := ha.1.2.some
  refine ⟨⟨I.len, fun i d h => ?_, fun i e t ht h => ?_, I.uniq, I.pin, I.pin0, fun p hp => ⟨own_one (fun q => nd (q ▸ List.mem_map_of_mem hp)) (I.pend p (List.mem_cons_of_mem _ hp)).1, (I.pend p (List.mem_cons_of_mem _ hp)).2⟩, I.pop.pun, I.pop.pdis, I.fr, fun b h => .inl (I.sh0 b h), fun b h => ?_, fun b h => ?_, I.tab, fun b h => h.elim (I.nt b) fun z => by subst z; exact ha.1.2.nt⟩, (ha.1.2.mono (grow_one S H) rfl).rep (.inr rfl)⟩
  · obtain ⟨v, h1, h2⟩ := I.shr i d h
    exact ⟨v, h1, h2.mono (grow_one S H)⟩
  · obtain ⟨b, h1, h2, h3⟩ := I.own i e t ht h
    exact ⟨b, h1, own_one (fun q => I.pdis (a, d) List.mem_cons_self i e t ht h (q ▸ h1)) h2, h3⟩
  · rcases h with h | h
    · exact I.sh1 b h
    · have h : b = a := h
      subst h
      exact sh1_ok ha.2
  · rcases h with h | h
    · exact I.shH b h
    · have h : b = a := h
      subst h
      exact ⟨o, ho⟩
theorem get_set {α : Type} {l : List α} {i j : Nat} {x y : α} (h : (l.set i x)[j]? = some y) : (i = j ∧ y = x) ∨ (i ≠ j ∧ l[j]? = some y) := by
  by_cases e : i = j
  · subst e
    rw [List.getElem?_set_self'] at h
    cases q : l[i]? with
    | none => rw [q] at h; cases h
    | some z => rw [q] at h; exact .inl ⟨rfl, (Option.some.inj h).symm⟩
  · rw [List.getElem?_set_ne e] at h
    exact .inr ⟨e, h⟩
/-- an owned slot is given away -/
theorem SI.freezeVar {i : Nat} (I : SI G g σ H env S P) (h : env[i]? = some (some (d, .o))) : ∃ a, σ[i]? = some (some (.ref a)) ∧ SI G g σ H (env.set i (some (d, .s))) (Or1 S (One a)) P ∧ Rep G H (Or1 S (One a)) (.ref a) d := by
  obtain ⟨a, h1, h2, h3⟩ := I.own i d .o (by decide) h
  obtain ⟨o, ho⟩ := h2.2.some
  have rp : Rep G H (Or1 S (One a)) (.ref a) d := (h2.2.mono (grow_one S H) rfl).rep (.inr rfl)
  have old : ∀ {j : Nat} {e : D} {t : Tag}, t ≠ .s → (env.set i (some (d, .s)))[j]? = some (some (e, t)) → i ≠ j ∧ env[j]? = some (some (e, t)) := fun {j e t} ht q => by
    rcases get_set q with ⟨_, q⟩ | q
    · injection q with q; injection q with _ q; exact absurd q ht
    · exact q
  refine ⟨a, h1, ⟨by rw [List.length_set]; exact I.len, fun j e q => ?_, fun j e t ht q => ?_, fun j k e e' t u b ht hu q q' => I.uniq j k e e' t u b ht hu (old ht q).2 (old hu q').2, fun j e q => I.pin j e (old (by decide) q).2, fun b hb hn => ?_, fun p hp => ⟨own_one (fun q => I.pdis p hp i d .o (by decide) h (q ▸ h1)) (I.pend p hp).1, (I.pend p hp).2⟩, I.pun, fun p hp j e t ht q => I.pdis p hp j e t ht (old ht q).2, I.fr, fun b h => .inl (I.sh0 b h), fun b hb => ?_, fun b hb => ?_, I.tab, fun b h => h.elim (I.nt b) fun z => by subst z; exact h2.2.nt⟩, rp⟩
  · rcases get_set q with ⟨rfl, z⟩ | ⟨_, q⟩
    · injection z with z; injection z with z _; subst z
      exact ⟨.ref a, h1, rp⟩
    · obtain ⟨v, q1, q2⟩ := I.shr j e q
      exact ⟨v, q1, q2.mono (grow_one S H)⟩
  · obtain ⟨b, q1, q2, q3⟩ := I.own j e t ht (old ht q).2
    exact ⟨b, q1, own_one (fun z => (old ht q).1 (I.uniq i j d e .o t a (by decide) ht h (old ht q).2 h1 (z ▸ q1))) q2, q3⟩
  · obtain ⟨e, q⟩ := I.pin0 b hb hn
    refine ⟨e, ?_⟩
    have : i ≠ 0 := fun z => by subst z; rw [h] at q; injection q with q; injection q with q; injection q with _ q; cases q
    rw [List.getElem?_set_ne this]; exact q
  · rcases hb with hb | hb
    · exact I.sh1 b hb
    · have hb : b = a := hb
      subst hb; exact sh1_ok h3
  · rcases hb with hb | hb
    · exact I.shH b hb
    · have hb : b = a := hb
      subst hb; exact ⟨o, ho⟩

theorem set_slot {i : Nat} {v w : V} {σ : St} {j : Nat} (h : (σ.set i (some v))[j]? = some (some w)) (hi : i < σ.length) : (i = j ∧ w = v) ∨ (i ≠ j ∧ σ[j]? = some (some w)) := by
  rcases get_set h with ⟨e, q⟩ | q
  · exact .inl ⟨e, by injection q⟩
  · exact .inr q
theorem slot_ne {i j : Nat} {v : V} {σ : St} (h : i ≠ j) : (σ.set i (some v))[j]? = σ[j]? := List.getElem?_set_ne h
/-- a slot takes a shared value -/
theorem SI.setS {i : Nat} {v : V} {r : Option (D × Tag)} (I : SI G g σ H env S P) (h : env[i]? = some r) (hp : ∀ e, r ≠ some (e, .p)) (rv : Rep G H S v d) : SI G g (σ.set i (some v)) H (env.set i (some (d, .s))) S P := by
  have hi : i < env.length := (List.getElem?_eq_some_iff.mp h).1
  have hi' : i < σ.length := by rw [← I.len]; exact hi
  have old : ∀ {j : Nat} {e : D} {t : Tag}, t ≠ .s → (env.set i (some (d, .s)))[j]? = some (some (e, t)) → i ≠ j ∧ env[j]? = some (some (e, t)) := fun {j e t} ht q => by
    rcases get_set q with ⟨_, z⟩ | z
    · injection z with z; injection z with _ z; exact absurd z ht
    · exact z
  refine ⟨by rw [List.length_set, List.length_set]; exact I.len, fun j e q => ?_, fun j e t ht q => ?_, fun j k e e' t u b ht hu q q' q1 q2 => I.uniq j k e e' t u b ht hu (old ht q).2 (old hu q').2 ((slot_ne (old ht q).1).symm.trans q1) ((slot_ne (old hu q').1).symm.trans q2),
    fun j e q => ?_, fun b hb hn => ?_, I.pend, I.pun, fun p hp' j e t ht q => ?_, I.fr, I.sh0, I.sh1, I.shH, I.tab, I.nt⟩
  · rcases get_set q with ⟨rfl, z⟩ | ⟨hj, q⟩
    · injection z with z; injection z with z _; subst z
      exact ⟨v, by rw [List.getElem?_set_self hi'], rv⟩
    · rw [slot_ne hj]; exact I.shr j e q
  · rw [slot_ne (old ht q).1]; exact I.own j e t ht (old ht q).2
  · obtain ⟨h1, a, h2, h3⟩ := I.pin j e (old (by decide) q).2
    have hj := (old (by decide) q).1
    rw [h1] at hj
    exact ⟨h1, a, by rw [slot_ne hj]; exact h2, h3⟩
  · obtain ⟨e, q⟩ := I.pin0 b hb hn
    have : i ≠ 0 := fun z => by subst z; rw [h] at q; injection q with q; exact hp e q
    exact ⟨e, by rw [List.getElem?_set_ne this]; exact q⟩
  · rw [slot_ne (old ht q).1]; exact I.pdis p hp' j e t ht (old ht q).2
/-- a slot takes a pending root -/
theorem SI.setO {i : Nat} {r : Option (D × Tag)} (I : SI G g σ H env S ((a, d) :: P)) (h : env[i]? = some r) (hp : ∀ e, r ≠ some (e, .p)) : SI G g (σ.set i (some (.ref a))) H (env.set i (some (d, .o))) S P := by
  have hi : i < env.length := (List.getElem?_eq_some_iff.mp h).1
  have hi' : i < σ.length := by rw [← I.len]; exact hi
  have ha := I.pend (a, d) List.mem_cons_self
  have nd : a ∉ P.map (·.1) := (List.nodup_cons.mp (by have := I.pun; rwa [List.map_cons] at this)).1
  have dis := I.pdis (a, d) List.mem_cons_self
  have old : ∀ {j : Nat} {e : D} {t : Tag}, (env.set i (some (d, .o)))[j]? = some (some (e, t)) → (i = j ∧ e = d ∧ t = .o) ∨ (i ≠ j ∧ env[j]? = some (some (e, t))) := fun {j e t} q => by
    rcases get_set q with ⟨q0, z⟩ | z
    · injection z with z; injection z with z1 z2; exact .inl ⟨q0, z1, z2⟩
    · exact .inr z
  have self : (σ.set i (some (.ref a)))[i]? = some (some (V.ref a)) := by rw [List.getElem?_set_self hi']
  refine ⟨by rw [List.length_set, List.length_set]; exact I.len, fun j e q => ?_, fun j e t ht q => ?_, fun j k e e' t u b ht hu q q' q1 q2 => ?_,
    fun j e q => ?_, fun b hb hn => ?_, I.pop.pend, I.pop.pun, fun p hp' j e t ht q => ?_, I.fr, I.sh0, I.sh1, I.shH, I.tab, I.nt⟩
  · rcases old q with ⟨_, _, z⟩ | ⟨hj, q⟩
    · cases z
    · rw [slot_ne hj]; exact I.shr j e q
  · rcases old q with ⟨rfl, rfl, rfl⟩ | ⟨hj, q⟩
    · exact ⟨a, self, ha.1, ha.2⟩
    · rw [slot_ne hj]; exact I.own j e t ht q
  · rcases old q with ⟨rfl, rfl, rfl⟩ | ⟨hj, q⟩
    · rcases old q' with ⟨rfl, _, _⟩ | ⟨hk, q'⟩
      · rfl
      · rw [self] at q1; injection q1 with q1; injection q1 with q1; injection q1 with q1; subst q1
        rw [slot_ne hk] at q2
        exact absurd q2 (dis k e' u hu q')
    · rcases old q' with ⟨z0, _, _⟩ | ⟨hk, q'⟩
      · subst z0
        rw [self] at q2; injection q2 with q2; injection q2 with q2; injection q2 with q2; subst q2
        rw [slot_ne hj] at q1
        exact absurd q1 (dis j e t ht q)
      · exact I.uniq j k e e' t u b ht hu q q' ((slot_ne hj).symm.trans q1) ((slot_ne hk).symm.trans q2)
  · rcases old q with ⟨_, _, z⟩ | ⟨hj, q⟩
    · cases z
    · obtain ⟨h1, a, h2, h3⟩ := I.pin j e q
      rw [h1] at hj
      exact ⟨h1, a, by rw [slot_ne hj]; exact h2, h3⟩
  · obtain ⟨e, q⟩ := I.pin0 b hb hn
    have : i ≠ 0 := fun z => by subst z; rw [h] at q; injection q with q; exact hp e q
    exact ⟨e, by rw [List.getElem?_set_ne this]; exact q⟩
  · rcases old q with ⟨rfl, rfl, rfl⟩ | ⟨hj, q⟩
    · rw [self]; intro z; injection z with z; injection z with z; injection z with z
      exact nd (z ▸ List.mem_map_of_mem hp')
    · rw [slot_ne hj]; exact I.pop.pdis p hp' j e t ht q
/-- an owned root is changed -/
theorem SI.write {i : Nat} {t : Tag} {d' : D} {o : HO} (I : SI G g σ H env S P) (ht : t ≠ .s) (h : env[i]? = some (some (d, t))) (hσ : σ[i]? = some (some (.ref a))) (hat : At G (L2.upd H a o) S a d') :
    SI G g σ (L2.upd H a o) (env.set i (some (d', t))) S P := by
  obtain ⟨a', h1, h2, h3⟩ := I.own i d t ht h
  obtain rfl : a' = a := by rw [h1] at hσ; injection hσ with q; injection q with q; injection q
  obtain ⟨o0, ho0⟩ := h2.2.some
  have gr : Grow S H S (L2.upd H a' o) := fun b hb => ⟨hb, upd_ne fun e => h2.1 (e ▸ hb)⟩
  have ow : ∀ {b : Addr} {e : D}, b ≠ a' → Own G H S b e → Own G (L2.upd H a' o) S b e := fun {b e} hb q => ⟨q.1, q.2.mono gr (upd_ne hb)⟩
  have old : ∀ {j : Nat} {e : D} {u : Tag}, (env.set i (some (d', t)))[j]? = some (some (e, u)) → (i = j ∧ e = d' ∧ u = t) ∨ (i ≠ j ∧ env[j]? = some (some (e, u))) := fun {j e u} q => by
    rcases get_set q with ⟨q0, z⟩ | z
    · injection z with z; injection z with z1 z2; exact .inl ⟨q0, z1, z2⟩
    · exact .inr z
  have tagd : ∀ {j : Nat} {e : D} {u : Tag}, (env.set i (some (d', t)))[j]? = some (some (e, u)) → ∃ e', env[j]? = some (some (e', u)) := fun {j e u} q => by
    rcases old q with ⟨rfl, rfl, rfl⟩ | ⟨_, q⟩
    · exact ⟨d, h⟩
    · exact ⟨e, q⟩
  refine ⟨by rw [List.length_set]; exact I.len, fun j e q => ?_, fun j e u hu q => ?_, fun j k e e' u w b hu hw q q' => ?_, fun j e q => ?_, fun b hb hn => ?_, fun p hp => ⟨ow (fun z => I.pdis p hp i d t ht h (z ▸ hσ)) (I.pend p hp).1, (I.pend p hp).2⟩, I.pun,
    fun p hp j e u hu q => ?_, fun b u q1 q2 => ?_, I.sh0, I.sh1, fun b hb => ?_, tabs_upd I.tab h2.2.nt h2.2.ne_ext, fun b hb ps z => ?_⟩
  · rcases old q with ⟨_, _, z⟩ | ⟨_, q⟩
    · exact absurd z.symm ht
    · obtain ⟨v, q1, q2⟩ := I.shr j e q
      exact ⟨v, q1, q2.mono gr⟩
  · rcases old q with ⟨rfl, rfl, rfl⟩ | ⟨hj, q⟩
    · exact ⟨a', hσ, ⟨h2.1, hat⟩, h3⟩
    · obtain ⟨b, q1, q2, q3⟩ := I.own j e u hu q
      exact ⟨b, q1, ow (fun z => hj (I.uniq i j d e t u a' ht hu h q hσ (z ▸ q1))) q2, q3⟩
  · obtain ⟨x, q⟩ := tagd q
    obtain ⟨y, q'⟩ := tagd q'
    exact I.uniq j k x y u w b hu hw q q'
  · obtain ⟨x, q⟩ := tagd q
    exact I.pin j x q
  · obtain ⟨e, q⟩ := I.pin0 b hb hn
    by_cases hi : i = 0
    · subst hi
      rw [h] at q; injection q with q; injection q with q; injection q with q1 q2; subst q2
      have hi : 0 < env.length := (List.getElem?_eq_some_iff.mp h).1
      exact ⟨d', by rw [List.getElem?_set_self hi]⟩
    · exact ⟨e, by rw [List.getElem?_set_ne hi]; exact q⟩
  · obtain ⟨x, q⟩ := tagd q
    exact I.pdis p hp j x u hu q
  · have nb : b ≠ a' := fun z => by
      subst z
      rcases h3 with h3 | h3
      · rw [h3] at q1; cases q1
      · exact q2 h3
    rcases I.fr b u q1 q2 with k | ⟨k1, ps, k⟩
    · exact .inl (by rw [upd_ne nb]; exact k)
    · exact .inr ⟨k1, ps, by rw [upd_ne nb]; exact k⟩
  · obtain ⟨u, hu⟩ := I.shH b hb
    exact ⟨u, by rw [upd_ne (show b ≠ a' from fun e => h2.1 (e ▸ hb))]; exact hu⟩
  · rw [upd_ne (show b ≠ a' from fun e => h2.1 (e ▸ hb))] at z
    exact I.nt b hb ps z

theorem SI.growS (I : SI G g σ H env S P) {S' : Sset} (hs : ∀ b, S b → S' b) (e : ∀ b, S b → H' b = H b) : Grow S H S' H' := fun b hb => ⟨hs b hb, e b hb⟩
/-- behind a callee that changes nothing of ours; J: the callee's last state -/
theorem SI.call0 {fl : Bool} {σ' : St} {env' : EV} {S' : Sset} {R : List (Addr × D)} (I : SI G g σ H env S P) (J : SI G ⟨H, S, none, fl⟩ σ' H' env' S' R) : SI G g σ H' env S' P ∧ Grow S H S' H' := by
  have e : Ext1 H H' := fun b o h => J.fr b o h (by simp)
  have gr : Grow S H S' H' := I.grow1 e S' J.sh0
  have nS : ∀ b, ¬ S b → (∃ o, H b = some o) → (∀ φ, H b ≠ some (.ext φ)) → ¬ S' b := fun b hb ⟨o, ho⟩ hx h => by
    rcases J.sh1 b h with h | h | h | ⟨φ, h⟩
    · exact hb h
    · have h : H b = none := h
      rw [h] at ho; cases ho
    · cases h
    · exact hx φ h
  have ow : ∀ b d, Own G H S b d → Own G H' S' b d := fun b d ⟨h1, h2⟩ => by
    obtain ⟨o, ho⟩ := h2.some
    exact ⟨nS b h1 ⟨o, ho⟩ h2.ne_ext, h2.mono gr (((e b o ho).nt fun ps z => h2.nt ps (ho.trans z)).trans ho.symm)⟩
  refine ⟨⟨I.len, fun i d h => ?_, fun i d t ht h => ?_, I.uniq, I.pin, I.pin0, fun p hp => ⟨ow _ _ (I.pend p hp).1, (I.pend p hp).2⟩, I.pun, I.pdis, fun b o h1 h2 => (I.fr b o h1 h2).ext e, fun b h => J.sh0 b (I.sh0 b h), fun b h => ?_, J.shH, J.tab, J.nt⟩, gr⟩
  · obtain ⟨v, h1, h2⟩ := I.shr i d h
    exact ⟨v, h1, h2.mono gr⟩
  · obtain ⟨a, h1, h2, h3⟩ := I.own i d t ht h
    exact ⟨a, h1, ow _ _ h2, h3⟩
  · rcases J.sh1 b h with h | h | h | ⟨φ, h⟩
    · exact I.sh1 b h
    · exact sh1_ok (I.okNew h)
    · cases h
    · exact I.sh1_ext h
/-- .. a callee that changes the root of our slot i -/
theorem SI.call1 {fl : Bool} {σ' : St} {env' : EV} {S' : Sset} {R : List (Addr × D)} {i : Nat} {t : Tag} {d' : D} (I : SI G g σ H env S P) (ht : t ≠ .s) (h : env[i]? = some (some (d, t))) (hσ : σ[i]? = some (some (.ref a)))
    (J : SI G ⟨H, S, some a, fl⟩ σ' H' env' S' R) (hn : Own G H' S' a d') : SI G g σ H' (env.set i (some (d', t))) S' P ∧ Grow S H S' H' := by
  obtain ⟨a', h1, h2, h3⟩ := I.own i d t ht h
  obtain rfl : a' = a := by rw [h1] at hσ; injection hσ with q; injection q with q; injection q
  have e : ∀ b o, b ≠ a' → H b = some o → Keep H' b o := fun b o hb h => J.fr b o h (by simpa using Ne.symm hb)
  have gr : Grow S H S' H' := fun b hb => ⟨J.sh0 b hb, by
    obtain ⟨o, ho⟩ := I.shH b hb
    exact ((e b o (fun q => h2.1 (q ▸ hb)) ho).nt fun ps z => I.nt b hb ps (ho.trans z)).trans ho.symm⟩
  have nS : ∀ b, b ≠ a' → ¬ S b → (∃ o, H b = some o) → (∀ φ, H b ≠ some (.ext φ)) → ¬ S' b := fun b hba hb ⟨o, ho⟩ hx h => by
    rcases J.sh1 b h with h | h | h | ⟨φ, h⟩
    · exact hb h
    · have h : H b = none := h
      rw [h] at ho; cases ho
    · have h : some a' = some b := h
      injection h with h; exact hba h.symm
    · exact hx φ h
  have ow : ∀ {b : Addr} {e' : D}, b ≠ a' → Own G H S b e' → Own G H' S' b e' := fun {b e'} hb ⟨h1, h2⟩ => by
    obtain ⟨o, ho⟩ := h2.some
    exact ⟨nS b hb h1 ⟨o, ho⟩ h2.ne_ext, h2.mono gr (((e b o hb ho).nt fun ps z => h2.nt ps (ho.trans z)).trans ho.symm)⟩
  have old : ∀ {j : Nat} {e : D} {u : Tag}, (env.set i (some (d', t)))[j]? = some (some (e, u)) → (i = j ∧ e = d' ∧ u = t) ∨ (i ≠ j ∧ env[j]? = some (some (e, u))) := fun {j e u} q => by
    rcases get_set q with ⟨q0, z⟩ | z
    · injection z with z; injection z with z1 z2; exact .inl ⟨q0, z1, z2⟩
    · exact .inr z
  have tagd : ∀ {j : Nat} {e : D} {u : Tag}, (env.set i (some (d', t)))[j]? = some (some (e, u)) → ∃ e', env[j]? = some (some (e', u)) := fun {j e u} q => by
    rcases old q with ⟨rfl, rfl, rfl⟩ | ⟨_, q⟩
    · exact ⟨d, h⟩
    · exact ⟨e, q⟩
  refine ⟨⟨by rw [List.length_set]; exact I.len, fun j e q => ?_, fun j e u hu q => ?_, fun j k e e' u w b hu hw q q' => ?_, fun j e q => ?_, fun b hb hn => ?_, fun p hp => ⟨ow (fun z => I.pdis p hp i d t ht h (z ▸ hσ)) (I.pend p hp).1, (I.pend p hp).2⟩, I.pun,
    fun p hp j e u hu q => ?_, fun b u q1 q2 => ?_, fun b h => J.sh0 b (I.sh0 b h), fun b h => ?_, J.shH, J.tab, J.nt⟩, gr⟩
  · rcases old q with ⟨_, _, z⟩ | ⟨_, q⟩
    · exact absurd z.symm ht
    · obtain ⟨v, q1, q2⟩ := I.shr j e q
      exact ⟨v, q1, q2.mono gr⟩
  · rcases old q with ⟨rfl, rfl, rfl⟩ | ⟨hj, q⟩
    · exact ⟨a', hσ, hn, h3⟩
    · obtain ⟨b, q1, q2, q3⟩ := I.own j e u hu q
      exact ⟨b, q1, ow (fun z => hj (I.uniq i j d e t u a' ht hu h q hσ (z ▸ q1))) q2, q3⟩
  · obtain ⟨x, q⟩ := tagd q
    obtain ⟨y, q'⟩ := tagd q'
    exact I.uniq j k x y u w b hu hw q q'
  · obtain ⟨x, q⟩ := tagd q
    exact I.pin j x q
  · obtain ⟨e, q⟩ := I.pin0 b hb hn
    by_cases hi : i = 0
    · subst hi
      rw [h] at q; injection q with q; injection q with q; injection q with q1 q2; subst q2
      have hi : 0 < env.length := (List.getElem?_eq_some_iff.mp h).1
      exact ⟨d', by rw [List.getElem?_set_self hi]⟩
    · exact ⟨e, by rw [List.getElem?_set_ne hi]; exact q⟩
  · obtain ⟨x, q⟩ := tagd q
    exact I.pdis p hp j x u hu q
  · have nb : b ≠ a' := fun z => by
      subst z
      rcases h3 with h3 | h3
      · rw [h3] at q1; cases q1
      · exact q2 h3
    rcases I.fr b u q1 q2 with k | ⟨k1, ps, k⟩
    · exact e b u nb k
    · rcases e b _ nb k with q | ⟨_, q⟩
      · exact .inr ⟨k1, ps, q⟩
      · exact .inr ⟨k1, q⟩
  · rcases J.sh1 b h with h | h | h | ⟨φ, h⟩
    · exact I.sh1 b h
    · exact sh1_ok (I.okNew h)
    · have h : some a' = some b := h
      injection h with h; subst h; exact sh1_ok h3
    · exact I.sh1_ext h
/-- a new root out of a callee; I: our state ahead of the call, I': behind it -/
theorem SI.fresh {env1 : EV} {H1 : Hp} {S1 : Sset} {b : Addr} (I : SI G g σ H env S P) (I' : SI G g σ H1 env1 S1 P) (hb : H b = none) (ho : Own G H1 S1 b d) (ht : ∀ (j : Nat) (e : D) (t : Tag), env1[j]? = some (some (e, t)) → ∃ e', env[j]? = some (some (e', t))) : SI G g σ H1 env1 S1 ((b, d) :: P) := by
  refine I'.push ho (I.okNew hb) (fun p hp q => ?_) fun i e t ht' h q => ?_
  · obtain ⟨o, ho⟩ := (I.pend p hp).1.2.some
    rw [q, hb] at ho; cases ho
  · obtain ⟨e', h⟩ := ht i e t h
    obtain ⟨b', h1, h2, _⟩ := I.own i e' t ht' h
    rw [h1] at q
    injection q with q; injection q with q; injection q with q
    obtain ⟨o, ho⟩ := h2.2.some
    rw [q, hb] at ho; cases ho

/-! ### a def's entry -/
def startE (n : Nat) (io : Bool) (ds : List D) : EV :=
  (match io, ds with
    | true, d :: r => some (d, Tag.p) :: r.map fun x => some (x, Tag.s)
    | _, ds => ds.map fun x => some (x, Tag.s)) ++ List.replicate (n - ds.length) none
/-! ### a comprehension's slots -/
def wipeE (env : EV) : List Nat → EV
  | [] => env
  | i :: r => (wipeE env r).set i none
theorem wipeE_length (env : EV) : ∀ vs : List Nat, (wipeE env vs).length = env.length
  | [] => rfl
  | i :: r => by unfold wipeE; rw [List.length_set]; exact wipeE_length env r
theorem wipeE_some {x : D × Tag} {i : Nat} : ∀ {vs : List Nat}, (wipeE env vs)[i]? = some (some x) → env[i]? = some (some x) ∧ i ∉ vs
  | [], h => ⟨h, by simp⟩
  | j :: r, h => by
    unfold wipeE at h
    rcases get_set h with ⟨_, q⟩ | ⟨q, h⟩
    · cases q
    · obtain ⟨h1, h2⟩ := wipeE_some h
      exact ⟨h1, fun z => (List.mem_cons.mp z).elim (fun z => q z.symm) h2⟩
theorem wipeE_out {i : Nat} : ∀ {vs : List Nat}, i ∉ vs → (wipeE env vs)[i]? = env[i]?
  | [], _ => rfl
  | j :: r, h => by
    unfold wipeE
    rw [List.getElem?_set_ne (show j ≠ i from fun z => h (z ▸ List.mem_cons_self))]
    exact wipeE_out fun z => h (List.mem_cons_of_mem _ z)
/-- other slots -/
theorem SI.rew {σ' : St} {vs : List Nat} (I : SI G g σ H env S P) (hl : σ'.length = σ.length) (h0 : 0 ∉ vs) (e : ∀ i, i ∉ vs → σ'[i]? = σ[i]?) : SI G g σ' H (wipeE env vs) S P := by
  refine ⟨by rw [wipeE_length, I.len, hl], fun i d h => ?_, fun i d t ht h => ?_, fun i j d d' t u a ht hu h h' q q' => ?_, fun i d h => ?_, fun a h hn => ?_, I.pend, I.pun, fun p hp i d t ht h => ?_, I.fr, I.sh0, I.sh1, I.shH, I.tab, I.nt⟩
  · obtain ⟨h1, h2⟩ := wipeE_some h
    rw [e i h2]; exact I.shr i d h1
  · obtain ⟨h1, h2⟩ := wipeE_some h
    rw [e i h2]; exact I.own i d t ht h1
  · obtain ⟨h1, h2⟩ := wipeE_some h
    obtain ⟨h1', h2'⟩ := wipeE_some h'
    rw [e i h2] at q
    rw [e j h2'] at q'
    exact I.uniq i j d d' t u a ht hu h1 h1' q q'
  · obtain ⟨h1, h2⟩ := wipeE_some h
    obtain ⟨q1, a, q2, q3⟩ := I.pin i d h1
    exact ⟨q1, a, by rw [e 0 h0]; exact q2, q3⟩
  · obtain ⟨d, q⟩ := I.pin0 a h hn
    exact ⟨d, by rw [wipeE_out h0]; exact q⟩
  · obtain ⟨h1, h2⟩ := wipeE_some h
    rw [e i h2]; exact I.pdis p hp i d t ht h1
end
end DL

set_option Elab.async false
set_option linter.all false
set_option maxRecDepth 100000
set_option maxHeartbeats 1000000
/-! DL2: results, the judgement of expressions over data (DE), operands, operators, tests. -/
namespace DL
open PySem L2
inductive RE where
  | ok (d : D) (o : Bool) (e : EV) | exc (c : Nat) (fs : List D) (e : EV) | bad
inductive RS where
  | nx (e : EV) | rt (d : D) (o : Bool) (e : EV) | bk (e : EV) | ct (e : EV) | exc (c : Nat) (fs : List D) (e : EV) | bad
inductive RC where
  | ok (d : D) (o : Bool) (f : Option D) | exc (c : Nat) (fs : List D) (f : Option D) | bad
abbrev ME := EV → RE
abbrev MS := EV → RS
abbrev FN := List D → RC

/-- a result's value: shared, or a new root of the frame's -/
def Val (G : Ctx) (g : Gh) (σ : St) (H : Hp) (env : EV) (S : Sset) (P : List (Addr × D)) (v : V) (d : D) : Bool → Prop
  | false => SI G g σ H env S P ∧ Rep G H S v d
  | true => ∃ a, v = .ref a ∧ SI G g σ H env S ((a, d) :: P)
/-- an exception's class and dict stand for c and fs -/
def ExcRep (G : Ctx) (H : Hp) (S : Sset) (cls : Value) (dd : Option Addr) (c : Nat) (fs : List D) : Prop :=
  cls = .ref (G.C c) ∧ ∃ b vs, dd = some b ∧ S b ∧ H b = some (.xd ((G.F c).zip vs)) ∧ vs.length ≤ (G.F c).length ∧ RepL G H S vs fs
def PostE (G : Ctx) (W : WX) (g : Gh) (σ : St) (H : Hp) (S : Sset) (P : List (Addr × D)) (Q : VK) : RE → Prop
  | .ok d o e => ∀ v H' S', Grow S H S' H' → Val G g σ H' e S' P v d o → Q v H'
  | .exc c fs e => ∀ cls dd H' S', Grow S H S' H' → SI G g σ H' e S' P → ExcRep G H' S' cls dd c fs → W cls dd σ H'
  | .bad => False
def trE (G : Ctx) (W : WX) (m : ME) : TE := fun σ H Q => ∃ g env S P, SI G g σ H env S P ∧ PostE G W g σ H S P Q (m env)
abbrev DE (X : Cx) (G : Ctx) (W : WX) (e : Expr) (m : ME) := PE X e (trE G W m)

theorem peImp {X : Cx} {e : Expr} {t t' : TE} (h : PE X e t) (i : ∀ σ H Q, t' σ H Q → t σ H Q) : PE X e t' := ⟨fun pins s σ H Q I q => h.run pins s σ H Q I (i _ _ _ q)⟩
theorem ptImp {X : Cx} {e : Expr} {t t' : TT} (h : PT X e t) (i : ∀ σ H Q, t' σ H Q → t σ H Q) : PT X e t' := ⟨fun pins s σ H Q I q => h.run pins s σ H Q I (i _ _ _ q)⟩
theorem psImp {X : Cx} {e : Stmt} {t t' : TS} (h : PS X e t) (i : ∀ D σ H, t' D σ H → t D σ H) : PS X e t' := ⟨fun pins s σ H Q I q => h.run pins s σ H Q I (i _ _ _ q)⟩
theorem pssImp {X : Cx} {e : List Stmt} {t t' : TS} (h : PSs X e t) (i : ∀ D σ H, t' D σ H → t D σ H) : PSs X e t' := ⟨fun pins s σ H Q I q => h.run pins s σ H Q I (i _ _ _ q)⟩
theorem paImp {X : Cx} {e : List Expr} {t t' : TA} (h : PA X e t) (i : ∀ σ H Q, t' σ H Q → t σ H Q) : PA X e t' := ⟨fun pos pins s σ H Q I q => h.run pos pins s σ H Q I (i _ _ _ q)⟩

section
variable {X : Cx} {G : Ctx} {W : WX} {g : Gh} {σ : St} {H H1 : Hp} {env env1 : EV} {S S1 : Sset} {P : List (Addr × D)} {Q R : VK} {v : V} {d : D} {o : Bool}
theorem PostE.mono {r : RE} (gr : Grow S H S1 H1) (h : PostE G W g σ H S P Q r) : PostE G W g σ H1 S1 P Q r := by
  cases r with
  | ok d o e => exact fun v H' S' g' q => h v H' S' (gr.trans g') q
  | exc c fs e => exact fun cls dd H' S' g' q r => h cls dd H' S' (gr.trans g') q r
  | bad => exact h
/-- any result, given away -/
theorem Val.frz (h : Val G g σ H env S P v d o) : ∃ S', Grow S H S' H ∧ SI G g σ H env S' P ∧ Rep G H S' v d := by
  cases o with
  | false => exact ⟨S, Grow.rfl', h⟩
  | true =>
    obtain ⟨a, rfl, I⟩ := h
    exact ⟨_, grow_one S H, I.freeze⟩
/-- a constant answer -/
theorem trE.pure (I : SI G g σ H env S P) (r : Rep G H S v d) (h : PostE G W g σ H S P Q (.ok d false env1)) (e : env1 = env) : Q v H := by
  subst e
  exact h v H S Grow.rfl' ⟨I, r⟩
def bindE (m : ME) (k : D → ME) : ME := fun env => match m env with
  | .ok d _ e => k d e
  | .exc c fs e => .exc c fs e
  | .bad => .bad
def bindV (m : ME) (k : D → Bool → ME) : ME := fun env => match m env with
  | .ok d o e => k d o e
  | .exc c fs e => .exc c fs e
  | .bad => .bad
theorem bindE_ok {m : ME} {k : D → ME} (I : SI G g σ H env S P) (h : PostE G W g σ H S P Q (bindE m k env))
    (hk : ∀ d env1 v H1 S1, Grow S H S1 H1 → SI G g σ H1 env1 S1 P → Rep G H1 S1 v d → PostE G W g σ H1 S1 P Q (k d env1) → R v H1) : trE G W m σ H R := by
  refine ⟨g, env, S, P, I, ?_⟩
  unfold bindE at h
  cases q : m env with
  | ok d o e =>
    rw [q] at h
    intro v H1 S1 gr hv
    obtain ⟨S2, g2, I2, r2⟩ := hv.frz
    exact hk d e v H1 S2 (gr.trans g2) I2 r2 (h.mono (gr.trans g2))
  | exc c fs e => rw [q] at h; exact h
  | bad => rw [q] at h; exact h
theorem bindV_ok {m : ME} {k : D → Bool → ME} (I : SI G g σ H env S P) (h : PostE G W g σ H S P Q (bindV m k env))
    (hk : ∀ d o env1 v H1 S1, Grow S H S1 H1 → Val G g σ H1 env1 S1 P v d o → PostE G W g σ H1 S1 P Q (k d o env1) → R v H1) : trE G W m σ H R := by
  refine ⟨g, env, S, P, I, ?_⟩
  unfold bindV at h
  cases q : m env with
  | ok d o e =>
    rw [q] at h
    intro v H1 S1 gr hv
    exact hk d o e v H1 S1 gr hv (h.mono gr)
  | exc c fs e => rw [q] at h; exact h
  | bad => rw [q] at h; exact h

/-! ### names and constants -/
def mC (d : D) : ME := fun env => .ok d false env
def scalV : D → Option V
  | .non => some .non | .bl b => some (.bl b) | .int i => some (.int i) | .str x => if sOk x then some (.str x) else none | _ => none
theorem scalV_rep {d : D} {v : V} (h : scalV d = some v) : Rep G H S v d := by
  cases d <;> first
    | (injection h with h; subst h; constructor)
    | (simp only [scalV] at h; split at h <;> first | (injection h with h; subst h; exact .str (by assumption)) | cases h)
    | cases h
theorem de_c {e : Expr} (h : PE X e (tC v)) (r : scalV d = some v) : DE X G W e (mC d) := peImp h fun σ H Q ⟨g, env, S, P, I, q⟩ => trE.pure I (scalV_rep r) q rfl
theorem de_int {i j pos} : DE X G W (.Constant (.int i) j pos) (mC (.int i)) := de_c pe_int rfl
theorem de_bl {i j pos} : DE X G W (.Constant (.bool i) j pos) (mC (.bl i)) := de_c pe_bl rfl
theorem de_non {j pos} : DE X G W (.Constant .none j pos) (mC .non) := de_c pe_non rfl
theorem de_str {i j pos} (h : sOk i := by decide +kernel) : DE X G W (.Constant (.str i) j pos) (mC (.str i)) := de_c pe_str (if_pos h)
/-- a name of the frame, given away -/
def mV (i : Nat) : ME := fun env => match env[i]? with
  | some (some (d, .s)) => .ok d false env
  | some (some (d, .o)) => .ok d false (env.set i (some (d, .s)))
  | _ => .bad
theorem de_v {i : Nat} {x : Str} {pos : Pos} (h : PE X (.Name x pos) (tVar i)) : DE X G W (.Name x pos) (mV i) := peImp h fun σ H Q ⟨g, env, S, P, I, q⟩ => by
  unfold mV at q
  cases e : env[i]? with
  | none => rw [e] at q; exact q.elim
  | some r =>
    rw [e] at q
    cases r with
    | none => exact q.elim
    | some dt =>
      obtain ⟨d, t⟩ := dt
      cases t with
      | s =>
        obtain ⟨v, h1, h2⟩ := I.shr i d e
        exact ⟨v, h1, q v H S Grow.rfl' ⟨I, h2⟩⟩
      | o =>
        obtain ⟨a, h1, h2, h3⟩ := I.freezeVar e
        exact ⟨.ref a, h1, q _ H _ (grow_one S H) ⟨h2, h3⟩⟩
      | p => exact q.elim
/-- a name of the frame, moved out (the last thing a def does with it) -/
def mMv (i : Nat) : ME := fun env => match env[i]? with
  | some (some (d, .s)) => .ok d false env
  | some (some (d, .o)) => .ok d true (env.set i none)
  | _ => .bad

/-! ### operands -/
inductive Opn where
  | pl (i : Nat) | ex (m : ME)
/-- an operand that was evaluated: a place, or data -/
inductive Opd where
  | pl (i : Nat) | da (d : D)
def dat : Opd → EV → Option D
  | .pl i, env => match env[i]? with | some (some (d, _)) => some d | _ => none
  | .da d, _ => some d
def bindO (o : Opn) (k : Opd → ME) : ME := match o with
  | .pl i => fun env => match env[i]? with | some (some _) => k (.pl i) env | _ => .bad
  | .ex m => bindE m fun d => k (.da d)
def DO (X : Cx) (G : Ctx) (W : WX) (e : Expr) : Opn → Prop
  | .pl i => PE X e (tVar i)
  | .ex m => DE X G W e m
def tO (G : Ctx) (W : WX) : Opn → TE
  | .pl i => tVar i
  | .ex m => trE G W m
theorem DO.pe {e : Expr} {o : Opn} (h : DO X G W e o) : PE X e (tO G W o) := by cases o <;> exact h
def HoldO (G : Ctx) (σ : St) (H : Hp) (S : Sset) (v : V) : Opd → Prop
  | .pl i => σ[i]? = some (some v)
  | .da d => Rep G H S v d
theorem HoldO.mono {p : Opd} (gr : Grow S H S1 H1) (h : HoldO G σ H S v p) : HoldO G σ H1 S1 v p := by
  cases p with
  | pl i => exact h
  | da d => exact Rep.mono gr h
theorem Rep.b (h : Rep G H S v d) : RepB G H S v d := .inl h
theorem dat_ok {p : Opd} (I : SI G g σ H env S P) (h : HoldO G σ H S v p) (e : dat p env = some d) : RepB G H S v d := by
  cases p with
  | da d' => injection e with e; subst e; exact .inl h
  | pl i =>
    simp only [dat] at e
    cases q : env[i]? with
    | none => simp only [q] at e; cases e
    | some r =>
      simp only [q] at e
      cases r with
      | none => cases e
      | some dt =>
        obtain ⟨d', t⟩ := dt
        injection e with e
        have e : d' = d := e
        subst e
        by_cases ht : t = .s
        · subst ht
          obtain ⟨w, h1, h2⟩ := I.shr i d' q
          have h : σ[i]? = some (some v) := h
          rw [h1] at h; injection h with h; injection h with h; subst h
          exact .inl h2
        · obtain ⟨a, h1, h2, _⟩ := I.own i d' t ht q
          have h : σ[i]? = some (some v) := h
          rw [h1] at h; injection h with h; injection h with h; subst h
          exact .inr ⟨a, rfl, h2.2⟩
theorem bindO_ok {o : Opn} {k : Opd → ME} (I : SI G g σ H env S P) (h : PostE G W g σ H S P Q (bindO o k env))
    (hk : ∀ p env1 v H1 S1, Grow S H S1 H1 → SI G g σ H1 env1 S1 P → HoldO G σ H1 S1 v p → PostE G W g σ H1 S1 P Q (k p env1) → R v H1) : tO G W o σ H R := by
  cases o with
  | ex m =>
    exact bindE_ok (R := R) I h fun d env1 v H1 S1 gr I1 r q => hk (.da d) env1 v H1 S1 gr I1 r q
  | pl i =>
    unfold bindO at h
    cases q : env[i]? with
    | none => simp only [q] at h; exact h.elim
    | some r =>
      cases r with
      | none => simp only [q] at h; exact h.elim
      | some dt =>
        simp only [q] at h
        obtain ⟨d, t⟩ := dt
        obtain ⟨v, hv⟩ : ∃ v, σ[i]? = some (some v) := by
          by_cases ht : t = .s
          · subst ht
            obtain ⟨w, h1, _⟩ := I.shr i d q
            exact ⟨w, h1⟩
          · obtain ⟨a, h1, _⟩ := I.own i d t ht q
            exact ⟨_, h1⟩
        exact ⟨v, hv, hk (.pl i) env v H S Grow.rfl' I hv h⟩

/-! ### what a primitive does: new objects, one of them the answer -/
abbrev RP := Option (D × Bool)
def New (G : Ctx) (H : Hp) (S : Sset) (v : V) (H' : Hp) (d : D) (o : Bool) : Prop :=
  Ext H H' ∧ ∃ N : Sset, (∀ b, N b → H b = none ∧ ∃ u, H' b = some u ∧ NT u) ∧
    match o with
    | false => Rep G H' (Or1 S N) v d
    | true => ∃ a, v = .ref a ∧ H a = none ∧ ¬ N a ∧ At G H' (Or1 S N) a d
theorem New.val (I : SI G g σ H env S P) (h : New G H S v H1 d o) : ∃ S1, Grow S H S1 H1 ∧ Val G g σ H1 env S1 P v d o := by
  obtain ⟨e, N, hN, h⟩ := h
  refine ⟨Or1 S N, I.grow e _ fun b h => .inl h, ?_⟩
  cases o with
  | false => exact ⟨I.ext e hN, h⟩
  | true =>
    obtain ⟨a, h1, h2, h3, h4⟩ := h
    exact ⟨a, h1, I.extOwn e hN h2 h3 h4⟩
theorem or1_nul (S : Sset) : Or1 S Nul = S := by
  funext a; exact propext ⟨fun h => h.elim id False.elim, .inl⟩
/-- nothing new -/
theorem New.same (r : Rep G H S v d) : New G H S v H d false := ⟨Ext.rfl', Nul, fun _ h => h.elim, by
  show Rep G H (Or1 S Nul) v d
  rw [or1_nul]; exact r⟩
/-- one new root -/
theorem New.root {p : Addr} {u : HO} (hp : H p = none) (h : At G (L2.upd H p u) S p d) : New G H S (.ref p) (L2.upd H p u) d true := ⟨Ext.upd hp, Nul, fun _ h => h.elim, p, rfl, hp, id, by
  rw [or1_nul]; exact h⟩
theorem grow_upd {p : Addr} {u : HO} (hS : ∀ a, S a → ∃ o, H a = some o) (hp : H p = none) : Grow S H S (L2.upd H p u) := fun a ha => ⟨ha, by
  obtain ⟨o, ho⟩ := hS a ha
  exact upd_ne (ne_of_none ho hp)⟩
def liftP (r : RP) : ME := fun env => match r with
  | some (d, o) => .ok d o env
  | none => .bad
theorem liftP_ok {r : RP} (I : SI G g σ H env S P) (h : PostE G W g σ H S P Q (liftP r env)) : ∃ d o, r = some (d, o) ∧ ∀ v H', New G H S v H' d o → Q v H' := by
  unfold liftP at h
  cases r with
  | none => exact h.elim
  | some dt =>
    obtain ⟨d, o⟩ := dt
    refine ⟨d, o, rfl, fun v H' n => ?_⟩
    obtain ⟨S1, gr, hv⟩ := n.val I
    exact h v H' S1 gr hv

/-- a two-place primitive: the rule r is met wherever p answers; hS: what is shared stands -/
def P2 (G : Ctx) (r : R2) (p : D → D → RP) : Prop := ∀ (H : Hp) (S : Sset) (v w : V) (x y d : D) (o : Bool) (Q : VK), (∀ a, S a → ∃ u, H a = some u) → RepB G H S v x → RepB G H S w y → p x y = some (d, o) → (∀ v' H', New G H S v' H' d o → Q v' H') → r v w H Q
def mO2 (p : D → D → RP) (a b : Opn) : ME := bindO a fun pa => bindO b fun pb env => match dat pa env, dat pb env with
  | some x, some y => liftP (p x y) env
  | _, _ => .bad
theorem tO2 {r : R2} {p : D → D → RP} {a b : Opn} (hp : P2 G r p) (h : trE G W (mO2 p a b) σ H Q) : tOp r (tO G W a) (tO G W b) σ H Q := by
  obtain ⟨g, env, S, P, I, h⟩ := h
  refine bindO_ok I h fun pa env1 v H1 S1 g1 I1 ha h => ?_
  refine bindO_ok I1 h fun pb env2 w H2 S2 g2 I2 hb h => ?_
  have ha := ha.mono g2
  cases ea : dat pa env2 with
  | none => simp only [ea] at h; exact h.elim
  | some x =>
    cases eb : dat pb env2 with
    | none => simp only [ea, eb] at h; exact h.elim
    | some y =>
      simp only [ea, eb] at h
      obtain ⟨d, o, e, k⟩ := liftP_ok I2 h
      exact hp H2 S2 v w x y d o Q I2.shH (dat_ok I2 ha ea) (dat_ok I2 hb eb) e k
theorem de_op {op : Operator} {r : R2} {p : D → D → RP} {a b : Expr} {oa ob : Opn} {pos : Pos} (ho : OpR X (binaryOp op) r) (hp : P2 G r p) (ha : DO X G W a oa) (hb : DO X G W b ob) : DE X G W (.BinOp a op b pos) (mO2 p oa ob) :=
  peImp (pe_op ho ha.pe hb.pe) fun _ _ _ h => tO2 hp h
theorem de_cmp {op : CmpOp} {r : R2} {p : D → D → RP} {a b : Expr} {oa ob : Opn} {pos : Pos} (ho : OpR X (compareOp op) r) (hp : P2 G r p) (ha : DO X G W a oa) (hb : DO X G W b ob) (hm : behindInMarks op b = false) : DE X G W (.Compare a [op] [b] pos) (mO2 p oa ob) :=
  peImp (pe_cmpR ho ha.pe hb.pe hm) fun _ _ _ h => tO2 hp h
/-- a one-place primitive -/
def P1 (G : Ctx) (r : V → Hp → VK → Prop) (p : D → RP) : Prop := ∀ (H : Hp) (S : Sset) (v : V) (x d : D) (o : Bool) (Q : VK), (∀ a, S a → ∃ u, H a = some u) → RepB G H S v x → p x = some (d, o) → (∀ v' H', New G H S v' H' d o → Q v' H') → r v H Q
def mO1 (p : D → RP) (a : Opn) : ME := bindO a fun pa env => match dat pa env with
  | some x => liftP (p x) env
  | _ => .bad
theorem tO1 {r : V → Hp → VK → Prop} {p : D → RP} {a : Opn} (hp : P1 G r p) (h : trE G W (mO1 p a) σ H Q) : tUn r (tO G W a) σ H Q := by
  obtain ⟨g, env, S, P, I, h⟩ := h
  refine bindO_ok I h fun pa env1 v H1 S1 g1 I1 ha h => ?_
  cases ea : dat pa env1 with
  | none => simp only [ea] at h; exact h.elim
  | some x =>
    simp only [ea] at h
    obtain ⟨d, o, e, k⟩ := liftP_ok I1 h
    exact hp H1 S1 v x d o Q I1.shH (dat_ok I1 ha ea) e k
theorem de_un {op : UnaryOp} {r : V → Hp → VK → Prop} {p : D → RP} {a : Expr} {oa : Opn} {pos : Pos} (ho : UnR X (unaryOp op) r) (hp : P1 G r p) (ha : DO X G W a oa) : DE X G W (.UnaryOp op a pos) (mO1 p oa) :=
  peImp (pe_un ho ha.pe) fun _ _ _ h => tO1 hp h
end
end DL

set_option Elab.async false
set_option linter.all false
set_option maxRecDepth 100000
set_option maxHeartbeats 1000000
/-! DL3: tests, and | or | not, built-in calls, attributes, displays. -/
namespace DL
open PySem L2
inductive RB where
  | ok (b : Bool) (e : EV) | exc (c : Nat) (fs : List D) (e : EV) | bad
abbrev MT := EV → RB
def PostT (G : Ctx) (W : WX) (g : Gh) (σ : St) (H : Hp) (S : Sset) (P : List (Addr × D)) (Q : Bool → Hp → Prop) : RB → Prop
  | .ok b e => ∀ H' S', Grow S H S' H' → SI G g σ H' e S' P → Q b H'
  | .exc c fs e => ∀ cls dd H' S', Grow S H S' H' → SI G g σ H' e S' P → ExcRep G H' S' cls dd c fs → W cls dd σ H'
  | .bad => False
def trT (G : Ctx) (W : WX) (m : MT) : TT := fun σ H Q => ∃ g env S P, SI G g σ H env S P ∧ PostT G W g σ H S P Q (m env)
abbrev DT (X : Cx) (G : Ctx) (W : WX) (e : Expr) (m : MT) := PT X e (trT G W m)

def truD : D → Option Bool
  | .non => some false | .bl b => some b | .int i => some (i != 0) | .str x => some ((x.length : Int) != 0)
  | .lst xs => some (!xs.isEmpty) | .tup xs => some (!xs.isEmpty) | .dct xs => some (!xs.isEmpty) | _ => none
section
variable {X : Cx} {G : Ctx} {W : WX} {g : Gh} {σ : St} {H H1 : Hp} {env env1 : EV} {S S1 : Sset} {P : List (Addr × D)} {Q R : VK} {QT RT : Bool → Hp → Prop} {v : V} {d : D} {o : Bool}
theorem PostT.mono {r : RB} (gr : Grow S H S1 H1) (h : PostT G W g σ H S P QT r) : PostT G W g σ H1 S1 P QT r := by
  cases r with
  | ok d e => exact fun H' S' g' q => h H' S' (gr.trans g') q
  | exc c fs e => exact fun cls dd H' S' g' q r => h cls dd H' S' (gr.trans g') q r
  | bad => exact h
theorem RepL.length : ∀ {vs : List V} {ds : List D}, RepL G H S vs ds → vs.length = ds.length
  | _, _, .nil => rfl
  | _, _, .cons _ r => by simp [RepL.length r]
theorem RepK.length : ∀ {vs : List (Key × V)} {ds : List (Key × D)}, RepK G H S vs ds → vs.length = ds.length
  | _, _, .nil => rfl
  | _, _, .cons _ _ r => by simp [RepK.length r]
theorem RepL.empty {vs : List V} {ds : List D} (h : RepL G H S vs ds) : vs.isEmpty = ds.isEmpty := by cases h <;> rfl
theorem RepK.empty {vs : List (Key × V)} {ds : List (Key × D)} (h : RepK G H S vs ds) : vs.isEmpty = ds.isEmpty := by cases h <;> rfl
theorem RepL.get : ∀ {vs : List V} {ds : List D} {i : Nat} {d : D}, RepL G H S vs ds → ds[i]? = some d → ∃ v, vs[i]? = some v ∧ Rep G H S v d
  | _, _, _, _, .nil, e => by simp at e
  | _, _, 0, _, .cons r _, e => by simp at e; subst e; exact ⟨_, rfl, r⟩
  | _, _, i + 1, d, .cons _ t, e => by
    obtain ⟨u, h1, h2⟩ := RepL.get (i := i) (d := d) t (by simpa using e)
    exact ⟨u, by simpa using h1, h2⟩
theorem RepL.getV : ∀ {vs : List V} {ds : List D} {i : Nat} {v : V}, RepL G H S vs ds → vs[i]? = some v → ∃ d, ds[i]? = some d ∧ Rep G H S v d
  | _, _, _, _, .nil, e => by simp at e
  | _, _, 0, _, .cons r _, e => by simp at e; subst e; exact ⟨_, rfl, r⟩
  | _, _, i + 1, v, .cons _ t, e => by
    obtain ⟨u, h1, h2⟩ := RepL.getV (i := i) (v := v) t (by simpa using e)
    exact ⟨u, by simpa using h1, h2⟩
theorem RepL.append : ∀ {vs ws : List V} {ds es : List D}, RepL G H S vs ds → RepL G H S ws es → RepL G H S (vs ++ ws) (ds ++ es)
  | _, _, _, _, .nil, h => h
  | _, _, _, _, .cons r t, h => .cons r (RepL.append t h)
theorem RepL.take : ∀ {vs : List V} {ds : List D} (n : Nat), RepL G H S vs ds → RepL G H S (vs.take n) (ds.take n)
  | _, _, 0, _ => .nil
  | _, _, _ + 1, .nil => .nil
  | _, _, n + 1, .cons r t => .cons r (RepL.take n t)
theorem RepL.drop : ∀ {vs : List V} {ds : List D} (n : Nat), RepL G H S vs ds → RepL G H S (vs.drop n) (ds.drop n)
  | _, _, 0, r => r
  | _, _, _ + 1, .nil => .nil
  | _, _, n + 1, .cons _ t => RepL.drop n t
theorem RepL.set {v : V} {d : D} (r : Rep G H S v d) : ∀ {vs : List V} {ds : List D} (i : Nat), RepL G H S vs ds → RepL G H S (vs.set i v) (ds.set i d)
  | _, _, _, .nil => .nil
  | _, _, 0, .cons _ t => .cons r t
  | _, _, i + 1, .cons q t => .cons q (RepL.set r i t)
theorem RepL.rev : ∀ {vs : List V} {ds : List D}, RepL G H S vs ds → RepL G H S vs.reverse ds.reverse
  | _, _, .nil => .nil
  | _, _, .cons r t => by rw [List.reverse_cons, List.reverse_cons]; exact (RepL.rev t).append (.cons r .nil)
theorem RepL.erase : ∀ {vs : List V} {ds : List D} (i : Nat), RepL G H S vs ds → RepL G H S (vs.eraseIdx i) (ds.eraseIdx i)
  | _, _, _, .nil => .nil
  | _, _, 0, .cons _ t => t
  | _, _, i + 1, .cons q t => .cons q (RepL.erase i t)
/-! what a read root holds -/
theorem RepB.lst {ds : List D} (h : RepB G H S v (.lst ds)) : ∃ a vs, v = .ref a ∧ H a = some (.lst vs) ∧ vs.length ≤ sizeLine ∧ RepL G H S vs ds := by
  rcases h with h | ⟨a, e, vs, h1, h2, h3⟩
  · cases h with
    | lst s h l r => exact ⟨_, _, rfl, h, l, r⟩
  · exact ⟨a, vs, e, h1, h2, h3⟩
theorem RepB.dct {ds : List (Key × D)} (h : RepB G H S v (.dct ds)) : ∃ a vs, v = .ref a ∧ H a = some (.dK vs) ∧ vs.length ≤ sizeLine ∧ RepK G H S vs ds := by
  rcases h with h | ⟨a, e, vs, h1, h2, h3⟩
  · cases h with
    | dct s h l r => exact ⟨_, _, rfl, h, l, r⟩
  · exact ⟨a, vs, e, h1, h2, h3⟩
theorem RepB.obj {c : Nat} {ds : List D} (h : RepB G H S v (.obj c ds)) : ∃ a dx vs, v = .ref a ∧ H a = some (.ins (G.C c) dx ((G.F c).zip vs)) ∧ vs.length ≤ (G.F c).length ∧ RepL G H S vs ds := by
  rcases h with h | ⟨a, e, dx, vs, h1, h2, h3⟩
  · cases h with
    | obj s h l r => exact ⟨_, _, _, rfl, h, l, r⟩
  · exact ⟨a, dx, vs, e, h1, h2, h3⟩
theorem RepB.int {i : Int} (h : RepB G H S v (.int i)) : v = .int i := by
  rcases h with h | ⟨a, e, h⟩
  · cases h; rfl
  · exact h.elim
theorem RepB.bl {i : Bool} (h : RepB G H S v (.bl i)) : v = .bl i := by
  rcases h with h | ⟨a, e, h⟩
  · cases h; rfl
  · exact h.elim
theorem RepB.non (h : RepB G H S v .non) : v = .non := by
  rcases h with h | ⟨a, e, h⟩
  · cases h; rfl
  · exact h.elim
theorem RepB.str {x : Str} (h : RepB G H S v (.str x)) : v = .str x ∧ sOk x := by
  rcases h with h | ⟨a, e, h⟩
  · cases h with
    | str h => exact ⟨rfl, h⟩
  · exact h.elim
theorem RepB.tup {K : PySem.W.Frag} {ds : List D} (hK : G.K = K) (h : RepB G H S v (.tup ds)) : ∃ a vs, v = .ref a ∧ SqT K H a vs ∧ vs.length ≤ sizeLine ∧ RepL G H S vs ds := by
  subst hK
  rcases h with h | ⟨a, e, h⟩
  · cases h with
    | tup s h l r => exact ⟨_, _, rfl, SqT.of h, l, r⟩
    | ktup k r =>
      refine ⟨_, _, rfl, .inr k, ?_, r⟩
      obtain ⟨o, its, n, h1, h2, h3, h4, h5⟩ := k
      have := h5.length
      simp only [Array.length_toList] at this
      omega
  · exact h.elim
theorem RepB.scr {ns : List Int} (h : RepB G H S v (.scr ns)) : ∃ a, v = .ref a ∧ ((∃ o, H a = some (.frz o (.lst (ns.map V.int)))) ∨ KLst G.K a (ns.map V.int)) ∧ ns.length ≤ sizeLine := by
  rcases h with h | ⟨a, e, h⟩
  · cases h with
    | scr s h l => exact ⟨_, rfl, .inl ⟨_, h⟩, l⟩
    | kscr h l => exact ⟨_, rfl, .inr h, l⟩
  · exact h.elim
theorem scr_sq {K : PySem.W.Frag} {a : Addr} {xs : List V} (hK : G.K = K) (h : (∃ o, H a = some (.frz o (.lst xs))) ∨ KLst G.K a xs) : SqL K H a xs := by
  subst hK
  rcases h with ⟨o, h⟩ | h
  · exact .inl (.inr ⟨o, h⟩)
  · exact .inr h
theorem tru_ok' {K : PySem.W.Frag} {b : Bool} (hK : G.K = K) (h : RepB G H S v d) (e : truD d = some b) : TruV K v H b := by
  cases d <;> simp only [truD] at e <;> (try cases e)
  case non => rw [h.non]; rfl
  case bl => rw [h.bl]; rfl
  case int => rw [h.int]; rfl
  case str => obtain ⟨rfl, h2⟩ := h.str; exact ⟨h2.1, rfl⟩
  case tup => obtain ⟨a, vs, rfl, h2, h3, h4⟩ := h.tup hK; exact .inr (.inl ⟨vs, h2, by rw [h4.empty]⟩)
  case lst => obtain ⟨a, vs, rfl, h2, h3, h4⟩ := h.lst; exact .inl ⟨vs, SqL.of h2, by rw [h4.empty]⟩
  case dct => obtain ⟨a, vs, rfl, h2, h3, h4⟩ := h.dct; exact .inr (.inr ⟨vs, h2, by rw [h4.empty]⟩)

/-! ### tests -/
/-- a value that is a bool, as a test -/
def mT (m : ME) : MT := fun env => match m env with
  | .ok d _ e => match d with
    | .bl b => .ok b e
    | _ => .bad
  | .exc c fs e => .exc c fs e
  | .bad => .bad
theorem mT_ok {m : ME} (h : trT G W (mT m) σ H QT) : trE G W m σ H (fun x H' => ∃ k, x = .bl k ∧ QT k H') := by
  obtain ⟨g, env, S, P, I, h⟩ := h
  refine ⟨g, env, S, P, I, ?_⟩
  unfold mT at h
  cases q : m env with
  | ok d o e =>
    simp only [q] at h
    intro v H1 S1 gr hv
    cases d with
    | bl b =>
      cases o with
      | false =>
        obtain ⟨I1, r⟩ := hv
        cases r
        exact ⟨b, rfl, h H1 S1 gr I1⟩
      | true =>
        obtain ⟨a, _, I1⟩ := hv
        exact (I1.pend _ List.mem_cons_self).1.2.elim
    | _ => exact h.elim
  | exc c fs e => simp only [q] at h; exact h
  | bad => simp only [q] at h; exact h
theorem dt_val {e : Expr} {m : ME} (h : DE X G W e m) (he : ∀ whole, isTrue e X.env whole = (do let v ← whole; standAt e.pos; holding [v] (truthy v)) := by intro _; rfl) : DT X G W e (mT m) :=
  ptImp (pt_val h he) fun _ _ _ h => mT_ok h
theorem dt_cmp {op : CmpOp} {r : R2} {p : D → D → RP} {a b : Expr} {oa ob : Opn} {pos : Pos} (ho : OpR X (compareOp op) r) (hp : P2 G r p) (ha : DO X G W a oa) (hb : DO X G W b ob) (hm : behindInMarks op b = false) : DT X G W (.Compare a [op] [b] pos) (mT (mO2 p oa ob)) :=
  ptImp (pt_cmpR ho ha.pe hb.pe hm) fun σ H Q h => tO2 hp (mT_ok h)
/-- any value, as a test -/
def mTr (o : Opn) : MT := fun env => match bindO o (fun p env => match dat p env with
    | some d => match truD d with
      | some b => .ok (.bl b) false env
      | none => .bad
    | none => .bad) env with
  | .ok (.bl b) _ e => .ok b e
  | .exc c fs e => .exc c fs e
  | _ => .bad
theorem dt_truth {e : Expr} {a : Opn} (hK : G.K = X.K) (h : DO X G W e a) (he : ∀ whole, isTrue e X.env whole = (do let v ← whole; standAt e.pos; holding [v] (truthy v)) := by intro _; rfl) : DT X G W e (mTr a) :=
  ptImp (pt_truth h.pe he) fun σ H QT h => by
    obtain ⟨g, env, S, P, I, h⟩ := h
    have h' : PostE G W g σ H S P (fun x H' => ∃ k, x = .bl k ∧ QT k H') (bindO a (fun p env => match dat p env with
        | some d => match truD d with
          | some b => .ok (.bl b) false env
          | none => .bad
        | none => .bad) env) := by
      have := (mT_ok (QT := QT) (m := bindO a (fun p env => match dat p env with
        | some d => match truD d with
          | some b => .ok (.bl b) false env
          | none => .bad
        | none => .bad)) (G := G) (W := W) (σ := σ) (H := H) ⟨g, env, S, P, I, by
          unfold mTr at h
          unfold mT
          generalize bindO a _ env = r at h ⊢
          cases r with
          | ok d o e => cases d <;> exact h
          | exc c fs e => exact h
          | bad => exact h⟩)
      revert h
      unfold mTr
      generalize bindO a _ env = r
      intro h
      cases r with
      | ok d o e =>
        intro v H1 S1 gr hv
        cases d with
        | bl b =>
          cases o with
          | false =>
            obtain ⟨I1, r⟩ := hv
            cases r
            exact ⟨b, rfl, h H1 S1 gr I1⟩
          | true =>
            obtain ⟨a, _, I1⟩ := hv
            exact (I1.pend _ List.mem_cons_self).1.2.elim
        | _ => exact h.elim
      | exc c fs e => exact h
      | bad => exact h
    refine bindO_ok I h' fun p env1 v H1 S1 gr I1 hp h => ?_
    cases e1 : dat p env1 with
    | none => simp only [e1] at h; exact h.elim
    | some d =>
      simp only [e1] at h
      cases e2 : truD d with
      | none => simp only [e2] at h; exact h.elim
      | some b =>
        simp only [e2] at h
        obtain ⟨k, e3, q⟩ := h (.bl b) H1 S1 Grow.rfl' ⟨I1, .bl⟩
        cases e3
        exact ⟨b, tru_ok' hK (dat_ok I1 hp e1) e2, q⟩
def bindT (m : MT) (k : Bool → MT) : MT := fun env => match m env with
  | .ok b e => k b e
  | .exc c fs e => .exc c fs e
  | .bad => .bad
theorem bindT_ok {m : MT} {k : Bool → MT} (I : SI G g σ H env S P) (h : PostT G W g σ H S P QT (bindT m k env))
    (hk : ∀ b env1 H1 S1, Grow S H S1 H1 → SI G g σ H1 env1 S1 P → PostT G W g σ H1 S1 P QT (k b env1) → RT b H1) : trT G W m σ H RT := by
  refine ⟨g, env, S, P, I, ?_⟩
  unfold bindT at h
  cases q : m env with
  | ok b e =>
    rw [q] at h
    exact fun H1 S1 gr I1 => hk b e H1 S1 gr I1 (h.mono gr)
  | exc c fs e => rw [q] at h; exact h
  | bad => rw [q] at h; exact h
def mAndT (a b : MT) : MT := bindT a fun k => match k with | true => b | false => fun e => .ok false e
def mOrT (a b : MT) : MT := bindT a fun k => match k with | true => fun e => .ok true e | false => b
def mNotT (a : MT) : MT := bindT a fun k e => .ok (!k) e
/-- a test whatever its 'whole' is -/
abbrev DW (X : Cx) (G : Ctx) (W : WX) (e : Expr) (m : MT) := PW X e (trT G W m)
theorem pwImp {e : Expr} {t t' : TT} (h : PW X e t) (i : ∀ σ H Q, t' σ H Q → t σ H Q) : PW X e t' := ⟨fun w pins s σ H Q I q => h.run w pins s σ H Q I (i _ _ _ q)⟩
variable {a b : Expr} {rest : List Expr} {ma mb : MT} {pos : Pos}
theorem dw_and1 (ha : DT X G W a ma) : DW X G W (.BoolOp .And [a] pos) ma := pw_and1 ha
theorem dw_or1 (ha : DT X G W a ma) : DW X G W (.BoolOp .Or [a] pos) ma := pw_or1 ha
theorem dw_and (ha : DT X G W a ma) (hb : DW X G W (.BoolOp .And (b :: rest) pos) mb) : DW X G W (.BoolOp .And (a :: b :: rest) pos) (mAndT ma mb) :=
  pwImp (pw_and ha hb) fun σ H Q ⟨g, env, S, P, I, h⟩ => bindT_ok I h fun k env1 H1 S1 gr I1 h => by
    cases k with
    | true => exact iteT ⟨g, env1, S1, P, I1, h⟩
    | false => exact iteF (h H1 S1 Grow.rfl' I1)
theorem dw_or (ha : DT X G W a ma) (hb : DW X G W (.BoolOp .Or (b :: rest) pos) mb) : DW X G W (.BoolOp .Or (a :: b :: rest) pos) (mOrT ma mb) :=
  pwImp (pw_or ha hb) fun σ H Q ⟨g, env, S, P, I, h⟩ => bindT_ok I h fun k env1 H1 S1 gr I1 h => by
    cases k with
    | true => exact iteT (h H1 S1 Grow.rfl' I1)
    | false => exact iteF ⟨g, env1, S1, P, I1, h⟩
theorem dt_w (h : DW X G W a ma) : DT X G W a ma := h.pt
theorem dt_not (ha : DT X G W a ma) : DT X G W (.UnaryOp .Not a pos) (mNotT ma) :=
  ptImp (pt_not ha) fun σ H Q ⟨g, env, S, P, I, h⟩ => bindT_ok I h fun k env1 H1 S1 gr I1 h => h H1 S1 Grow.rfl' I1
/-! .. as values -/
def blE (m : ME) (k : Bool → ME) : ME := bindE m fun d => match d with | .bl b => k b | _ => fun _ => .bad
def mAndV (a b : ME) : ME := blE a fun k => match k with | true => b | false => fun e => .ok (.bl false) false e
def mOrV (a b : ME) : ME := blE a fun k => match k with | true => fun e => .ok (.bl true) false e | false => b
def mNotV (a : ME) : ME := blE a fun k e => .ok (.bl (!k)) false e
theorem blE_ok {m : ME} {k : Bool → ME} (I : SI G g σ H env S P) (h : PostE G W g σ H S P Q (blE m k env))
    (hk : ∀ b env1 H1 S1, Grow S H S1 H1 → SI G g σ H1 env1 S1 P → PostE G W g σ H1 S1 P Q (k b env1) → R (.bl b) H1) : trE G W m σ H R :=
  bindE_ok I h fun d env1 v H1 S1 gr I1 r h => by
    cases d with
    | bl b => cases r; exact hk b env1 H1 S1 gr I1 h
    | _ => exact h.elim
variable {ea eb : ME}
theorem de_one {op : BoolOp} (h : DE X G W a ea) : DE X G W (.BoolOp op [a] pos) ea := pe_one h
theorem de_and (ha : DE X G W a ea) (hb : DE X G W (.BoolOp .And (b :: rest) pos) eb) : DE X G W (.BoolOp .And (a :: b :: rest) pos) (mAndV ea eb) :=
  peImp (pe_and ha hb) fun σ H Q ⟨g, env, S, P, I, h⟩ => blE_ok I h fun k env1 H1 S1 gr I1 h => by
    cases k with
    | true => exact ⟨true, rfl, iteT ⟨g, env1, S1, P, I1, h⟩⟩
    | false => exact ⟨false, rfl, iteF (h _ H1 S1 Grow.rfl' ⟨I1, .bl⟩)⟩
theorem de_or (ha : DE X G W a ea) (hb : DE X G W (.BoolOp .Or (b :: rest) pos) eb) : DE X G W (.BoolOp .Or (a :: b :: rest) pos) (mOrV ea eb) :=
  peImp (pe_or ha hb) fun σ H Q ⟨g, env, S, P, I, h⟩ => blE_ok I h fun k env1 H1 S1 gr I1 h => by
    cases k with
    | true => exact ⟨true, rfl, iteT (h _ H1 S1 Grow.rfl' ⟨I1, .bl⟩)⟩
    | false => exact ⟨false, rfl, iteF ⟨g, env1, S1, P, I1, h⟩⟩
theorem de_not (ha : DE X G W a ea) : DE X G W (.UnaryOp .Not a pos) (mNotV ea) :=
  peImp (pe_not ha) fun σ H Q ⟨g, env, S, P, I, h⟩ => blE_ok I h fun k env1 H1 S1 gr I1 h => ⟨k, rfl, h _ H1 S1 Grow.rfl' ⟨I1, .bl⟩⟩
def bindTE (m : MT) (k : Bool → ME) : ME := fun env => match m env with
  | .ok b e => k b e
  | .exc c fs e => .exc c fs e
  | .bad => .bad
theorem bindTE_ok {m : MT} {k : Bool → ME} (I : SI G g σ H env S P) (h : PostE G W g σ H S P Q (bindTE m k env))
    (hk : ∀ b env1 H1 S1, Grow S H S1 H1 → SI G g σ H1 env1 S1 P → PostE G W g σ H1 S1 P Q (k b env1) → RT b H1) : trT G W m σ H RT := by
  refine ⟨g, env, S, P, I, ?_⟩
  unfold bindTE at h
  cases q : m env with
  | ok b e =>
    rw [q] at h
    exact fun H1 S1 gr I1 => hk b e H1 S1 gr I1 (h.mono gr)
  | exc c fs e => rw [q] at h; exact h
  | bad => rw [q] at h; exact h
/-- a if t else b -/
def mIf (t : MT) (a b : ME) : ME := bindTE t fun k => match k with | true => a | false => b
theorem de_if {c : Expr} {mc : MT} (hc : DT X G W c mc) (ha : DE X G W a ea) (hb : DE X G W b eb) : DE X G W (.IfExp c a b pos) (mIf mc ea eb) :=
  peImp (pe_ifExp hc ha hb) fun σ H Q ⟨g, env, S, P, I, h⟩ => bindTE_ok I h fun k env1 H1 S1 gr I1 h => by
    cases k with
    | true => exact iteT ⟨g, env1, S1, P, I1, h⟩
    | false => exact iteF ⟨g, env1, S1, P, I1, h⟩
/-- a op b op' c; b is no place that c changes (all three given away) -/
def mCh (p q : D → D → RP) (a b c : ME) : ME := bindE a fun x => bindE b fun y env => match p x y with
  | some (.bl true, false) => bindE c (fun z => liftP (q y z)) env
  | some (.bl false, false) => .ok (.bl false) false env
  | _ => .bad
theorem tCh {r r' : R2} {p q : D → D → RP} {ec : ME} (hp : P2 G r p) (hq : P2 G r' q) (h : trE G W (mCh p q ea eb ec) σ H Q) : tChain r r' (trE G W ea) (trE G W eb) (trE G W ec) σ H Q := by
  obtain ⟨g, env, S, P, I, h⟩ := h
  refine bindE_ok I h fun x env1 v H1 S1 g1 I1 rx h => ?_
  refine bindE_ok I1 h fun y env2 w H2 S2 g2 I2 ry h => ?_
  cases e : p x y with
  | none => simp only [e] at h; exact h.elim
  | some dt =>
    obtain ⟨d, o⟩ := dt
    cases o with
    | true => cases d <;> simp only [e] at h <;> exact h.elim
    | false =>
      cases d with
      | bl k =>
        refine hp H2 S2 v w x y _ false _ I2.shH (rx.mono g2).b ry.b e fun v' H' n => ?_
        obtain ⟨ex, N, hN, n⟩ := n
        have I3 := I2.ext ex hN
        have gr : Grow S2 H2 (Or1 S2 N) H' := I2.grow ex _ fun _ h => .inl h
        cases n
        refine ⟨k, rfl, ?_⟩
        cases k with
        | true =>
          simp only [e] at h
          refine iteT (bindE_ok I3 (h.mono gr) fun z env3 u H4 S4 g4 I4 rz h => ?_)
          obtain ⟨d, o, e', k⟩ := liftP_ok I4 h
          exact hq H4 S4 w u y z d o Q I4.shH (ry.mono (gr.trans g4)).b rz.b e' k
        | false =>
          simp only [e] at h
          exact iteF ((h.mono gr) _ H' _ Grow.rfl' ⟨I3, .bl⟩)
      | _ => simp only [e] at h; exact h.elim
theorem de_chain {op op' : CmpOp} {r r' : R2} {p q : D → D → RP} {c : Expr} {ec : ME} (ho : OpR X (compareOp op) r) (ho' : OpR X (compareOp op') r') (hp : P2 G r p) (hq : P2 G r' q) (ha : DE X G W a ea) (hb : DE X G W b eb) (hc : DE X G W c ec)
    (hm : lastMarks [op, op'] [b, c] = false := by with_unfolding_all rfl) : DE X G W (.Compare a [op, op'] [b, c] pos) (mCh p q ea eb ec) := peImp (pe_chain ho ho' ha hb hc hm) fun _ _ _ h => tCh hp hq h
theorem dt_chain {op op' : CmpOp} {r r' : R2} {p q : D → D → RP} {c : Expr} {ec : ME} (ho : OpR X (compareOp op) r) (ho' : OpR X (compareOp op') r') (hp : P2 G r p) (hq : P2 G r' q) (ha : DE X G W a ea) (hb : DE X G W b eb) (hc : DE X G W c ec)
    (hm : lastMarks [op, op'] [b, c] = false := by with_unfolding_all rfl) : DT X G W (.Compare a [op, op'] [b, c] pos) (mT (mCh p q ea eb ec)) := ptImp (pt_chain ho ho' ha hb hc hm) fun _ _ _ h => tCh hp hq (mT_ok h)
end
end DL

set_option Elab.async false
set_option linter.all false
set_option maxRecDepth 100000
set_option maxHeartbeats 1000000
/-! DL4: arguments, built-in calls, displays, attributes, items, slices, methods. -/
namespace DL
open PySem L2
inductive RL where
  | ok (ds : List D) (e : EV) | exc (c : Nat) (fs : List D) (e : EV) | bad
def evL : List ME → EV → RL
  | [], env => .ok [] env
  | m :: r, env => match m env with
    | .ok d _ e => match evL r e with
      | .ok ds e' => .ok (d :: ds) e'
      | .exc c fs e' => .exc c fs e'
      | .bad => .bad
    | .exc c fs e => .exc c fs e
    | .bad => .bad
def PostL (G : Ctx) (W : WX) (g : Gh) (σ : St) (H : Hp) (S : Sset) (P : List (Addr × D)) (n : Nat) (Q : List V → Hp → Prop) : RL → Prop
  | .ok ds e => ∀ vs H' S', Grow S H S' H' → SI G g σ H' e S' P → RepL G H' S' vs ds → vs.length = n → Q vs H'
  | .exc c fs e => ∀ cls dd H' S', Grow S H S' H' → SI G g σ H' e S' P → ExcRep G H' S' cls dd c fs → W cls dd σ H'
  | .bad => False
def trL (G : Ctx) (W : WX) (ms : List ME) : TA := fun σ H Q => ∃ g env S P, SI G g σ H env S P ∧ PostL G W g σ H S P ms.length Q (evL ms env)
abbrev DA (X : Cx) (G : Ctx) (W : WX) (es : List Expr) (ms : List ME) := PA X es (trL G W ms)
def bindL (ms : List ME) (k : List D → ME) : ME := fun env => match evL ms env with
  | .ok ds e => k ds e
  | .exc c fs e => .exc c fs e
  | .bad => .bad
section
variable {X : Cx} {G : Ctx} {W : WX} {g : Gh} {σ : St} {H H1 : Hp} {env env1 : EV} {S S1 : Sset} {P : List (Addr × D)} {Q R : VK} {RL' : List V → Hp → Prop} {v : V} {d : D} {o : Bool} {e : Expr} {es : List Expr} {m : ME} {ms : List ME} {pos : Pos} {n : Nat}
theorem PostL.mono {r : RL} (gr : Grow S H S1 H1) (h : PostL G W g σ H S P n RL' r) : PostL G W g σ H1 S1 P n RL' r := by
  cases r with
  | ok d e => exact fun vs H' S' g' q => h vs H' S' (gr.trans g') q
  | exc c fs e => exact fun cls dd H' S' g' q r => h cls dd H' S' (gr.trans g') q r
  | bad => exact h
theorem bindL_ok {k : List D → ME} (I : SI G g σ H env S P) (h : PostE G W g σ H S P Q (bindL ms k env))
    (hk : ∀ ds env1 vs H1 S1, Grow S H S1 H1 → SI G g σ H1 env1 S1 P → RepL G H1 S1 vs ds → vs.length = ms.length → PostE G W g σ H1 S1 P Q (k ds env1) → RL' vs H1) : trL G W ms σ H RL' := by
  refine ⟨g, env, S, P, I, ?_⟩
  unfold bindL at h
  cases q : evL ms env with
  | ok ds e =>
    rw [q] at h
    exact fun vs H1 S1 gr I1 r l => hk ds e vs H1 S1 gr I1 r l (h.mono gr)
  | exc c fs e => rw [q] at h; exact h
  | bad => rw [q] at h; exact h
theorem da_nil : DA X G W [] [] := paImp pa_nil fun σ H Q ⟨g, env, S, P, I, h⟩ => h [] H S Grow.rfl' I .nil rfl
theorem da_cons (he : DE X G W e m) (hr : DA X G W es ms) (hs : starEach (e :: es) X.env = (false, eval e X.env) :: starEach es X.env := by rfl) : DA X G W (e :: es) (m :: ms) :=
  paImp (pa_cons he hr hs) fun σ H Q ⟨g, env, S, P, I, h⟩ => by
    refine ⟨g, env, S, P, I, ?_⟩
    unfold evL at h
    cases q : m env with
    | ok d o e1 =>
      simp only [q] at h
      intro v H1 S1 gr hv
      obtain ⟨S2, g2, I2, r2⟩ := hv.frz
      refine ⟨g, e1, S2, P, I2, ?_⟩
      cases q2 : evL ms e1 with
      | ok ds e2 =>
        simp only [q2] at h
        intro vs H3 S3 g3 I3 r3 l3
        exact h (v :: vs) H3 S3 (gr.trans (g2.trans g3)) I3 (.cons (r2.mono g3) r3) (by simp [l3])
      | exc c fs e2 =>
        simp only [q2] at h
        exact (PostL.mono (r := .exc c fs e2) (n := 0) (RL' := fun _ _ => True) (G := G) (W := W) (gr.trans g2) h)
      | bad => simp only [q2] at h; exact h
    | exc c fs e1 => simp only [q] at h; exact h
    | bad => simp only [q] at h; exact h

/-! ### displays -/
theorem New.tup {p : Addr} {vs : List V} {ds : List D} (hS : ∀ a, S a → ∃ u, H a = some u) (hp : H p = none) (r : RepL G H S vs ds) (l : vs.length ≤ sizeLine) : New G H S (.ref p) (L2.upd H p (.tup vs)) (.tup ds) false :=
  ⟨Ext.upd hp, One p, fun b hb => by subst hb; exact ⟨hp, _, upd_same, fun _ z => nomatch z⟩, by
    have g1 : Grow S H (Or1 S (One p)) (L2.upd H p (.tup vs)) := fun a ha => ⟨.inl ha, (grow_upd hS hp a ha).2⟩
    exact .tup (.inr rfl) upd_same l (r.mono g1)⟩
theorem New.lst {p : Addr} {vs : List V} {ds : List D} (hS : ∀ a, S a → ∃ u, H a = some u) (hp : H p = none) (r : RepL G H S vs ds) (l : vs.length ≤ sizeLine) : New G H S (.ref p) (L2.upd H p (.lst vs)) (.lst ds) true :=
  New.root hp ⟨vs, upd_same, l, r.mono (grow_upd hS hp)⟩
def mTup (ms : List ME) : ME := bindL ms fun ds => liftP (some (.tup ds, false))
def mLst (ms : List ME) : ME := bindL ms fun ds => liftP (some (.lst ds, true))
theorem de_tup {x1} (h : DA X G W es ms) (hl : ms.length ≤ sizeLine := by decide) : DE X G W (.Tuple es x1 pos) (mTup ms) :=
  peImp (pe_tup h) fun σ H Q ⟨g, env, S, P, I, h⟩ => bindL_ok I h fun ds env1 vs H1 S1 gr I1 r l h => by
    obtain ⟨d, o, e, k⟩ := liftP_ok I1 h
    cases e
    exact ⟨by rw [l]; exact hl, fun p hp => k _ _ (New.tup I1.shH hp r (by rw [l]; exact hl))⟩
theorem de_lst (h : DA X G W es ms) (hl : ms.length ≤ sizeLine := by decide) : DE X G W (.List es pos) (mLst ms) :=
  peImp (pe_lst h) fun σ H Q ⟨g, env, S, P, I, h⟩ => bindL_ok I h fun ds env1 vs H1 S1 gr I1 r l h => by
    obtain ⟨d, o, e, k⟩ := liftP_ok I1 h
    cases e
    exact ⟨by rw [l]; exact hl, fun p hp => k _ _ (New.lst I1.shH hp r (by rw [l]; exact hl))⟩

/-! ### built-in calls -/
abbrev RN := List V → Hp → VK → Prop
theorem de_b1 {x : Str} {id : String} {r : RN} {p : D → RP} {oa : Opn} {px : Pos} (hc : CallR X (.builtin id) r) (hp : P1 G (fun v H Q => r [v] H Q) p) (hg : Gl X x) (hm : X.mg x = none) (hv : bootBuiltins x = some (.builtin id)) (ha : DO X G W e oa)
    (hn : x ≠ "__name__" := by decide) (hdb : (x == ("__debug__" : Str)) = false := by decide)
    (h1 : starEach (e :: []) X.env = (false, eval e X.env) :: starEach [] X.env := by rfl) (hpl : (backTo pos (starEach [] X.env)).any (·.1) = false := by rfl) : DE X G W (.Call (.Name x px) [e] [] pos) (mO1 p oa) :=
  peImp (pe_callB hc hg hm hv (pa_cons ha.pe pa_nil h1) hn hdb h1 hpl) fun σ H Q h => tO1 hp h
theorem de_t1 {x : Str} {id : String} {r : RN} {p : D → RP} {oa : Opn} {px : Pos} (hc : CallR X (.type id) r) (hp : P1 G (fun v H Q => r [v] H Q) p) (hg : Gl X x) (hm : X.mg x = none) (hv : bootBuiltins x = some (.type id)) (ha : DO X G W e oa)
    (hn : x ≠ "__name__" := by decide) (hdb : (x == ("__debug__" : Str)) = false := by decide)
    (h1 : starEach (e :: []) X.env = (false, eval e X.env) :: starEach [] X.env := by rfl) (hpl : (backTo pos (starEach [] X.env)).any (·.1) = false := by rfl) : DE X G W (.Call (.Name x px) [e] [] pos) (mO1 p oa) :=
  peImp (pe_callTy hc hg hm hv (pa_cons ha.pe pa_nil h1) hn hdb h1 hpl) fun σ H Q h => tO1 hp h
theorem de_b2 {x : Str} {id : String} {r : RN} {p : D → D → RP} {e2 : Expr} {oa ob : Opn} {px : Pos} (hc : CallR X (.builtin id) r) (hp : P2 G (fun v w H Q => r [v, w] H Q) p) (hg : Gl X x) (hm : X.mg x = none) (hv : bootBuiltins x = some (.builtin id)) (ha : DO X G W e oa) (hb : DO X G W e2 ob)
    (hn : x ≠ "__name__" := by decide) (hdb : (x == ("__debug__" : Str)) = false := by decide)
    (h1 : starEach (e :: e2 :: []) X.env = (false, eval e X.env) :: starEach [e2] X.env := by rfl) (h2 : starEach (e2 :: []) X.env = (false, eval e2 X.env) :: starEach [] X.env := by rfl) (hpl : (backTo pos (starEach [e2] X.env)).any (·.1) = false := by rfl) : DE X G W (.Call (.Name x px) [e, e2] [] pos) (mO2 p oa ob) :=
  peImp (pe_callB hc hg hm hv (pa_cons ha.pe (pa_cons hb.pe pa_nil h2) h1) hn hdb h1 hpl) fun σ H Q h => tO2 hp h

/-! ### attributes -/
theorem zip_look {f : Str} : ∀ {F : List Str} {vs : List V} {j : Nat}, F.Nodup → F[j]? = some f → (F.zip vs).lookup f = vs[j]?
  | [], vs, j, _, h => by simp at h
  | x :: F, [], j, _, h => by simp
  | x :: F, v :: vs, 0, _, h => by
    simp at h; subst h
    simp [List.lookup]
  | x :: F, v :: vs, j + 1, nd, h => by
    have nd' := List.nodup_cons.mp nd
    have hF : F[j]? = some f := by simpa using h
    have ne : (f == x) = false := by
      have : f ≠ x := fun e => nd'.1 (e ▸ List.mem_of_getElem? hF)
      simpa using this
    rw [List.zip_cons_cons, List.lookup_cons, ne]
    simpa using zip_look nd'.2 hF
/-- what a field's read asks of the classes: idx tells the field's place -/
def FldOk (K : PySem.W.Frag) (G : Ctx) (f : Str) (idx : Nat → Option Nat) : Prop := ∀ c j, idx c = some j → Cls K (G.C c) ∧ NoAttr K (G.C c) f ∧ (G.F c)[j]? = some f ∧ (G.F c).Nodup
def attrP (idx : Nat → Option Nat) : D → RP
  | .obj c ds => match idx c with
    | some j => (ds[j]?).map fun d => (d, false)
    | none => none
  | _ => none
theorem de_attr {f : Str} {idx : Nat → Option Nat} {oa : Opn} (hf : FldOk X.K G f idx) (he : DO X G W e oa) (hb : attributeBase e f X.env (eval e X.env) = eval e X.env := by rfl) : DE X G W (.Attribute e f pos) (mO1 (attrP idx) oa) :=
  peImp (pe_fld he.pe hb) fun σ H Q h => tO1 (r := fun x H1 Q => ∃ a C dx fs v, x = .ref a ∧ H1 a = some (.ins C dx fs) ∧ Cls X.K C ∧ NoAttr X.K C f ∧ fs.lookup f = some v ∧ Q v H1) (fun H S v x d o Q hS rb e k => by
    cases x with
    | obj c ds =>
      simp only [attrP] at e
      cases q : idx c with
      | none => rw [q] at e; cases e
      | some j =>
        rw [q] at e
        cases q2 : ds[j]? with
        | none => simp [q2] at e
        | some d' =>
          simp [q2] at e
          obtain ⟨rfl, rfl⟩ := e
          obtain ⟨a, dx, vs, rfl, h1, h2, h3⟩ := rb.obj
          obtain ⟨f1, f2, f3, f4⟩ := hf c j q
          obtain ⟨v, q3, r⟩ := h3.get q2
          exact ⟨a, _, dx, _, v, rfl, h1, f1, f2, (zip_look f4 f3).trans q3, k v H (New.same r)⟩
    | _ => cases e) h

/-! ### items, slices -/
theorem de_ix {r : R2} {p : D → D → RP} {a b : Expr} {oa ob : Opn} (hr : IxR X r) (hp : P2 G r p) (ha : DO X G W a oa) (hb : DO X G W b ob) (hs : PlainIx b := by intro _ _; rfl) : DE X G W (.Subscript a b pos) (mO2 p oa ob) :=
  peImp (pe_ix hr ha.pe hb.pe hs) fun σ H Q h => tO2 hp h
/-- d[k], the key there -/
def keyD : D → Option Key
  | .int i => some (.inl i)
  | .str x => some (.inr x)
  | _ => none
def keysD : List D → Option (List Key)
  | [] => some []
  | d :: r => match keyD d, keysD r with
    | some k, some ks => some (k :: ks)
    | _, _ => none
section
variable {κ : Type} [DecidableEq κ]
def lookD (kvs : List (κ × D)) (k : κ) : Option D := (kvs.find? fun kv => decide (kv.1 = k)).map (·.2)
def putD (kvs : List (κ × D)) (k : κ) (v : D) : List (κ × D) :=
  if (kvs.any fun kv => decide (kv.1 = k)) = true then kvs.map fun kv => if kv.1 = k then (kv.1, v) else kv else kvs ++ [(k, v)]
def dropD (kvs : List (κ × D)) (k : κ) : List (κ × D) := kvs.filter fun kv => decide (kv.1 ≠ k)
end
theorem keyD_ok {x : D} {k : Key} (e : keyD x = some k) (h : RepB G H S v x) : v = kV k ∧ keyOk k := by
  cases x <;> simp only [keyD] at e <;> (try cases e)
  · exact ⟨h.int, trivial⟩
  · obtain ⟨h1, h2⟩ := h.str
    exact ⟨h1, h2⟩
theorem RepK.look {κ' : Unit} {k : Key} : ∀ {vs : List (Key × V)} {ds : List (Key × D)}, RepK G H S vs ds → (∀ d, lookD ds k = some d → ∃ v, valV vs k = some v ∧ Rep G H S v d) ∧ (lookD ds k = none → valV vs k = none)
  | _, _, .nil => ⟨fun d h => (by simp [lookD] at h), fun _ => rfl⟩
  | _, _, .cons (k := k') (v := v) (d := d) (vs := vs) (ds := ds) _ r rs => by
    have ih := RepK.look (κ' := κ') (k := k) rs
    by_cases e : k' = k
    · subst e
      rw [valV_pos (p := (k', v)) rfl]
      have : lookD ((k', d) :: ds) k' = some d := by simp [lookD]
      rw [this]
      exact ⟨fun d' h => by injection h with h; subst h; exact ⟨v, rfl, r⟩, fun h => by cases h⟩
    · rw [valV_neg (p := (k', v)) e]
      have : lookD ((k', d) :: ds) k = lookD ds k := by simp [lookD, e]
      rw [this]
      exact ih
def dgetP : D → D → RP
  | .dct kvs, y => match keyD y with
    | some k => (lookD kvs k).map fun d => (d, false)
    | none => none
  | _, _ => none
theorem dgetP_ok : P2 G (fun x y H2 Q => ∃ a v, x = .ref a ∧ DGet H2 a y (some v) ∧ Q v H2) dgetP := fun H S v w x y d o Q hS rx ry e k => by
  cases x with
  | dct kvs =>
    simp only [dgetP] at e
    cases q : keyD y with
    | none => rw [q] at e; cases e
    | some key =>
      rw [q] at e
      cases q2 : lookD kvs key with
      | none => simp [q2] at e
      | some d' =>
        simp [q2] at e
        obtain ⟨rfl, rfl⟩ := e
        obtain ⟨a, vs, rfl, h1, h2, h3⟩ := rx.dct
        obtain ⟨rfl, _⟩ := keyD_ok q ry
        obtain ⟨v, e1, r⟩ := (h3.look (κ' := ()) (k := key)).1 d' q2
        exact ⟨a, v, rfl, by rw [← e1]; exact DGet.k h1, k v H (New.same r)⟩
  | _ => cases e
theorem de_dget {a b : Expr} {oa ob : Opn} (hu : X.A.units + 1 < cLine) (ha : DO X G W a oa) (hb : DO X G W b ob) (hs : NoSl b := by intro _ _; rfl) : DE X G W (.Subscript a b pos) (mO2 dgetP oa ob) :=
  peImp (pe_dget hu ha.pe hb.pe hs) fun σ H Q h => tO2 dgetP_ok h
end
end DL

set_option Elab.async false
set_option linter.all false
set_option maxRecDepth 100000
set_option maxHeartbeats 1000000
/-! DL5: the primitives: arithmetic, comparisons, in, len, all, any, sum, sorted, list, tuple, int, isinstance. -/
namespace DL
open PySem L2
section
variable {X : Cx} {G : Ctx} {H : Hp} {S : Sset} {v w : V} {Q : VK}
theorem k_int {i : Int} (k : ∀ v' H', New G H S v' H' (.int i) false → Q v' H') : Q (.int i) H := k _ _ (New.same .int)
theorem k_bl {i : Bool} (k : ∀ v' H', New G H S v' H' (.bl i) false → Q v' H') : Q (.bl i) H := k _ _ (New.same .bl)
/-! two ints -/
def intP (C : Int → Int → Bool) (f : Int → Int → Int) : D → D → RP
  | .int i, .int j => match C i j with | true => some (.int (f i j), false) | false => none
  | _, _ => none
def intP0 (f : Int → Int → Int) : D → D → RP
  | .int i, .int j => some (.int (f i j), false)
  | _, _ => none
def cmpP (f : Int → Int → Bool) : D → D → RP
  | .int i, .int j => some (.bl (f i j), false)
  | _, _ => none
theorem intP_ok {C : Int → Int → Prop} {C' : Int → Int → Bool} {f f' : Int → Int → Int} (hC : ∀ i j, C' i j = true → C i j ∧ f' i j = f i j) : P2 G (rI C fun i j => .int (f i j)) (intP C' f') := fun H S v w x y d o Q hS rx ry e k => by
  cases x <;> cases y <;> simp only [intP] at e <;> (try cases e)
  rename_i i j
  split at e
  · rename_i h
    cases e
    obtain ⟨h1, h2⟩ := hC i j h
    rw [h2] at k
    exact ⟨i, j, rx.int, ry.int, h1, k_int k⟩
  · cases e
theorem intP0_ok {f : Int → Int → Int} : P2 G (rI0 fun i j => .int (f i j)) (intP0 f) := fun H S v w x y d o Q hS rx ry e k => by
  cases x <;> cases y <;> simp only [intP0] at e <;> (try cases e)
  exact ⟨_, _, rx.int, ry.int, k_int k⟩
theorem cmpP_ok {f : Int → Int → Bool} : P2 G (rI0 fun i j => .bl (f i j)) (cmpP f) := fun H S v w x y d o Q hS rx ry e k => by
  cases x <;> cases y <;> simp only [cmpP] at e <;> (try cases e)
  exact ⟨_, _, rx.int, ry.int, k_bl k⟩
def cMul (i j : Int) : Bool := (decide (-(2 ^ 64) < i) && decide (i < 2 ^ 64)) || (decide (-(2 ^ 64) < j) && decide (j < 2 ^ 64))
def cDiv (_ j : Int) : Bool := decide (j ≠ 0) && decide (j.natAbs < 1073741824)
def cMod (_ j : Int) : Bool := decide (j ≠ 0)
def cPow (i j : Int) : Bool := decide (0 ≤ j) && (decide (j ≤ 1000000) && decide (i.natAbs < 2 ^ 64))
def addI := intP0 (fun i j => i + j)
def subP := intP0 (fun i j => i - j)
def mulP := intP cMul (fun i j => i * j)
def divP := intP cDiv Int.fdiv
def modP := intP cMod Int.fmod
def powP := intP cPow (fun i j => i ^ j.toNat)
theorem mulP_ok : P2 G (rI CMul fun i j => .int (i * j)) mulP := intP_ok fun i j h => ⟨by
  simp only [cMul, Bool.or_eq_true, Bool.and_eq_true, decide_eq_true_eq] at h
  exact h, rfl⟩
theorem divP_ok : P2 G (rI CDivN fun i j => .int (i.fdiv j)) divP := intP_ok fun i j h => ⟨by
  simp only [cDiv, Bool.and_eq_true, decide_eq_true_eq] at h
  exact h, rfl⟩
theorem modP_ok : P2 G (rI (fun _ j => j ≠ 0) fun i j => .int (i.fmod j)) modP := intP_ok fun i j h => ⟨by
  simp only [cMod, decide_eq_true_eq] at h
  exact h, rfl⟩
theorem powP_ok : P2 G (rI CPow fun i j => .int (i ^ j.toNat)) powP := intP_ok fun i j h => ⟨by
  simp only [cPow, Bool.and_eq_true, decide_eq_true_eq] at h
  exact h, rfl⟩
def negP : D → RP
  | .int i => some (.int (-i), false)
  | _ => none
theorem negP_ok : P1 G (rU fun i => .int (-i)) negP := fun H S v x d o Q hS rx e k => by
  cases x <;> simp only [negP] at e <;> (try cases e)
  exact ⟨_, rx.int, k_int k⟩

/-! + -/
theorem sOk_append {x y : Str} (hx : sOk x) (hy : sOk y) (h : x.length + y.length ≤ sizeLine) : sOk (x ++ y) := by
  refine ⟨by rw [Str.length_append]; exact h, ?_⟩
  have h1 := hx.2
  have h2 := hy.2
  unfold PyData.strOk at *
  show ((x.cps ++ y.cps).all fun c => decide (c < 0x110000)) = true
  rw [Array.all_append, h1, h2]; rfl
def addP : D → D → RP
  | .int i, .int j => some (.int (i + j), false)
  | .str x, .str y => match decide (x.length + y.length ≤ sizeLine) with | true => some (.str (x ++ y), false) | false => none
  | .lst xs, .lst ys => match decide (xs.length + ys.length ≤ sizeLine) with | true => some (.lst (xs ++ ys), true) | false => none
  | .tup xs, .tup ys => match decide (xs.length + ys.length ≤ sizeLine) with | true => some (.tup (xs ++ ys), false) | false => none
  | _, _ => none
def rAddAll (K : PySem.W.Frag) : R2 := fun x y H Q => rI0 (fun i j => .int (i + j)) x y H Q ∨ ((∃ i j, x = .str i ∧ y = .str j ∧ i.length + j.length ≤ sizeLine ∧ Q (.str (i ++ j)) H) ∨ (rCat x y H Q ∨ rCatA K x y H Q))
theorem op_addAll : OpR X (binaryOp .Add) (rAddAll X.K) := op_add.or (op_add_str.or (op_cat.or op_catA))
theorem addP_ok {K : PySem.W.Frag} (hK : G.K = K) : P2 G (rAddAll K) addP := fun H S v w x y d o Q hS rx ry e k => by
  cases x <;> cases y <;> simp only [addP] at e <;> (try cases e)
  · exact .inl ⟨_, _, rx.int, ry.int, k_int k⟩
  · split at e
    · rename_i h
      have h := of_decide_eq_true h
      cases e
      obtain ⟨r1, h1⟩ := rx.str
      obtain ⟨r2, h2⟩ := ry.str
      exact .inr (.inl ⟨_, _, r1, r2, h, k _ _ (New.same (.str (sOk_append h1 h2 h)))⟩)
    · cases e
  · split at e
    · rename_i h
      have h := of_decide_eq_true h
      cases e
      obtain ⟨a, vs, rfl, h1, h2, h3⟩ := rx.tup hK
      obtain ⟨b, ws, rfl, q1, q2, q3⟩ := ry.tup hK
      refine .inr (.inr (.inr ⟨a, b, vs, ws, rfl, rfl, h1, q1, by rw [h3.length, q3.length]; exact h, fun z => ?_, fun z1 z => ?_, fun z1 z2 p hp => ?_⟩))
      · subst z
        have e0 := h3.length
        have : (_ : List D) = [] := List.eq_nil_of_length_eq_zero e0.symm
        rw [this, List.nil_append] at k
        refine k _ _ (New.same ?_)
        rcases ry with h | ⟨_, _, h⟩
        · exact h
        · exact h.elim
      · subst z
        have e0 := q3.length
        have : (_ : List D) = [] := List.eq_nil_of_length_eq_zero e0.symm
        rw [this, List.append_nil] at k
        refine k _ _ (New.same ?_)
        rcases rx with h | ⟨_, _, h⟩
        · exact h
        · exact h.elim
      · exact k _ _ (New.tup hS hp (h3.append q3) (by rw [List.length_append, h3.length, q3.length]; exact h))
    · cases e
  · split at e
    · rename_i h
      have h := of_decide_eq_true h
      cases e
      obtain ⟨a, vs, rfl, h1, h2, h3⟩ := rx.lst
      obtain ⟨b, ws, rfl, q1, q2, q3⟩ := ry.lst
      have hl : vs.length + ws.length ≤ sizeLine := by rw [h3.length, q3.length]; exact h
      exact .inr (.inr (.inl ⟨a, b, vs, ws, rfl, rfl, h1, q1, hl, fun p hp => k _ _ (New.lst hS hp (h3.append q3) (by rw [List.length_append]; exact hl))⟩))
    · cases e

/-! == and != of data -/
mutual
def pyD : D → Option PyData
  | .non => some .none | .bl b => some (.bool b) | .int i => some (.int i) | .str x => some (.str x)
  | .lst xs => (pyL xs).map .list
  | .tup xs => (pyL xs).map .tuple
  | _ => none
def pyL : List D → Option (List PyData)
  | [] => some []
  | d :: r => match pyD d, pyL r with
    | some p, some ps => some (p :: ps)
    | _, _ => none
end
mutual
theorem pyD_ok {K : PySem.W.Frag} (hK : G.K = K) : ∀ {v : V} {d : D} {p : PyData}, Rep G H S v d → pyD d = some p → Dp K H v p ∧ p.canLay0 = true
  | _, _, _, .non, e => by simp only [pyD] at e; cases e; exact ⟨.non, rfl⟩
  | _, _, _, .bl, e => by simp only [pyD] at e; cases e; exact ⟨.bl _, rfl⟩
  | _, _, _, .int, e => by simp only [pyD] at e; cases e; exact ⟨.int _, rfl⟩
  | _, _, _, .str h, e => by simp only [pyD] at e; cases e; exact ⟨.str _, by simpa [PyData.canLay0] using h.2⟩
  | _, _, p, .tup (ds := ds) s h l r, e => by
    cases q : pyL ds with
    | none => simp [pyD, q] at e
    | some ps =>
      simp [pyD, q] at e; subst e
      obtain ⟨h1, h2⟩ := pyL_ok hK r q
      exact ⟨.tup (SqT.of h) h1, by simpa [PyData.canLay0] using h2⟩
  | _, _, p, .ktup (ds := ds) k r, e => by
    cases q : pyL ds with
    | none => simp [pyD, q] at e
    | some ps =>
      simp [pyD, q] at e; subst e
      obtain ⟨h1, h2⟩ := pyL_ok hK r q
      subst hK
      exact ⟨.tup (.inr k) h1, by simpa [PyData.canLay0] using h2⟩
  | _, _, p, .lst (ds := ds) s h l r, e => by
    cases q : pyL ds with
    | none => simp [pyD, q] at e
    | some ps =>
      simp [pyD, q] at e; subst e
      obtain ⟨h1, h2⟩ := pyL_ok hK r q
      exact ⟨.lst (SqL.of h) h1, by simpa [PyData.canLay0] using h2⟩
  | _, _, _, .dct .., e => by simp [pyD] at e
  | _, _, _, .dtt .., e => by simp [pyD] at e
  | _, _, _, .obj .., e => by simp [pyD] at e
  | _, _, _, .scr .., e => by simp [pyD] at e
  | _, _, _, .kscr .., e => by simp [pyD] at e
  | _, _, _, .exc .., e => by simp [pyD] at e
theorem pyL_ok {K : PySem.W.Frag} (hK : G.K = K) : ∀ {v : List V} {d : List D} {p : List PyData}, RepL G H S v d → pyL d = some p → DpAll K H v p ∧ PyData.canLayAll0 p = true
  | _, _, _, .nil, e => by simp only [pyL] at e; cases e; exact ⟨.nil, rfl⟩
  | _, _, p, .cons (d := d) (ds := ds) r rs, e => by
    simp only [pyL] at e
    cases q : pyD d with
    | none => simp [q] at e
    | some p1 =>
      cases q2 : pyL ds with
      | none => simp [q, q2] at e
      | some ps =>
        simp [q, q2] at e; subst e
        obtain ⟨h1, h2⟩ := pyD_ok hK r q
        obtain ⟨h3, h4⟩ := pyL_ok hK rs q2
        exact ⟨.cons h1 h3, by simp [PyData.canLayAll0, h2, h4]⟩
end
theorem pyD_okB {K : PySem.W.Frag} {d : D} {p : PyData} (hK : G.K = K) (h : RepB G H S v d) (e : pyD d = some p) : Dp K H v p ∧ p.canLay0 = true := by
  rcases h with h | ⟨a, rfl, h⟩
  · exact pyD_ok hK h e
  · cases d with
    | lst ds =>
      obtain ⟨vs, h1, h2, h3⟩ := h
      cases q : pyL ds with
      | none => simp [pyD, q] at e
      | some ps =>
        simp [pyD, q] at e; subst e
        obtain ⟨k1, k2⟩ := pyL_ok hK h3 q
        exact ⟨.lst (SqL.of h1) k1, by simpa [PyData.canLay0] using k2⟩
    | dct ds => simp [pyD] at e
    | dtt ds => simp [pyD] at e
    | obj c ds => simp [pyD] at e
    | _ => exact h.elim
/-! equality of data, True as 1 -/
mutual
def eqD : D → D → Bool
  | .non, .non => true
  | .bl a, .bl b => a == b
  | .bl a, .int j => (if a then 1 else 0) == j
  | .int i, .bl b => i == (if b then 1 else 0)
  | .int i, .int j => i == j
  | .str x, .str y => x == y
  | .lst xs, .lst ys => eqL xs ys
  | .tup xs, .tup ys => eqL xs ys
  | _, _ => false
def eqL : List D → List D → Bool
  | [], [] => true
  | x :: xs, y :: ys => eqD x y && eqL xs ys
  | _, _ => false
end
mutual
def depD : D → Option Nat
  | .non => some 0 | .bl _ => some 0 | .int _ => some 0 | .str _ => some 0
  | .lst xs => (depL xs).map (· + 1)
  | .tup xs => (depL xs).map (· + 1)
  | _ => none
def depL : List D → Option Nat
  | [] => some 0
  | d :: r => match depD d, depL r with
    | some p, some ps => some (max p ps)
    | _, _ => none
end
mutual
theorem depD_py : ∀ {d : D} {n : Nat}, depD d = some n → ∃ p, pyD d = some p ∧ p.depth = n
  | .non, _, e => by simp only [depD] at e; cases e; exact ⟨_, rfl, rfl⟩
  | .bl _, _, e => by simp only [depD] at e; cases e; exact ⟨_, rfl, rfl⟩
  | .int _, _, e => by simp only [depD] at e; cases e; exact ⟨_, rfl, rfl⟩
  | .str _, _, e => by simp only [depD] at e; cases e; exact ⟨_, rfl, rfl⟩
  | .lst xs, _, e => by
    cases q : depL xs with
    | none => simp [depD, q] at e
    | some m =>
      simp [depD, q] at e; subst e
      obtain ⟨ps, h1, h2⟩ := depL_py q
      exact ⟨.list ps, by simp [pyD, h1], by simp [PyData.depth, h2]⟩
  | .tup xs, _, e => by
    cases q : depL xs with
    | none => simp [depD, q] at e
    | some m =>
      simp [depD, q] at e; subst e
      obtain ⟨ps, h1, h2⟩ := depL_py q
      exact ⟨.tuple ps, by simp [pyD, h1], by simp [PyData.depth, h2]⟩
  | .dct _, _, e => by simp [depD] at e
  | .dtt _, _, e => by simp [depD] at e
  | .obj _ _, _, e => by simp [depD] at e
  | .scr _, _, e => by simp [depD] at e
  | .exc _ _, _, e => by simp [depD] at e
theorem depL_py : ∀ {d : List D} {n : Nat}, depL d = some n → ∃ p, pyL d = some p ∧ PyData.depthAll p = n
  | [], _, e => by simp only [depL] at e; cases e; exact ⟨_, rfl, rfl⟩
  | d :: r, _, e => by
    simp only [depL] at e
    cases q : depD d with
    | none => simp [q] at e
    | some m =>
      cases q2 : depL r with
      | none => simp [q, q2] at e
      | some m2 =>
        simp [q, q2] at e; subst e
        obtain ⟨p, h1, h2⟩ := depD_py q
        obtain ⟨ps, h3, h4⟩ := depL_py q2
        exact ⟨p :: ps, by simp [pyL, h1, h3], by simp [PyData.depthAll, h2, h4]⟩
end
mutual
theorem eqD_py : ∀ {x y : D} {p q : PyData}, pyD x = some p → pyD y = some q → PyData.eqv p q = eqD x y
  | x, y, p, q, hp, hq => by
    cases x <;> simp only [pyD, reduceCtorEq, Option.some.injEq, Option.map_eq_some_iff] at hp
    all_goals cases y <;> simp only [pyD, reduceCtorEq, Option.some.injEq, Option.map_eq_some_iff] at hq
    all_goals first
      | (subst hp; subst hq; simp only [PyData.eqv, eqD]; done)
      | (subst hp; obtain ⟨qs, h2, rfl⟩ := hq; simp only [PyData.eqv, eqD]; done)
      | (subst hq; obtain ⟨ps, h1, rfl⟩ := hp; simp only [PyData.eqv, eqD]; done)
      | (obtain ⟨ps, h1, rfl⟩ := hp; obtain ⟨qs, h2, rfl⟩ := hq; simp only [PyData.eqv, eqD]; first | exact eqL_py h1 h2 | done)
theorem eqL_py : ∀ {x y : List D} {p q : List PyData}, pyL x = some p → pyL y = some q → PyData.eqvAll p q = eqL x y
  | [], [], p, q, hp, hq => by simp only [pyL] at hp hq; cases hp; cases hq; simp only [PyData.eqvAll, eqL]
  | [], d :: r, p, q, hp, hq => by
    simp only [pyL] at hp hq; cases hp
    cases q1 : pyD d with
    | none => simp [q1] at hq
    | some p1 =>
      cases q2 : pyL r with
      | none => simp [q1, q2] at hq
      | some ps => simp [q1, q2] at hq; subst hq; simp only [PyData.eqvAll, eqL]
  | d :: r, [], p, q, hp, hq => by
    simp only [pyL] at hp hq; cases hq
    cases q1 : pyD d with
    | none => simp [q1] at hp
    | some p1 =>
      cases q2 : pyL r with
      | none => simp [q1, q2] at hp
      | some ps => simp [q1, q2] at hp; subst hp; simp only [PyData.eqvAll, eqL]
  | d :: r, d' :: r', p, q, hp, hq => by
    simp only [pyL] at hp hq
    cases q1 : pyD d with
    | none => simp [q1] at hp
    | some p1 =>
      cases q2 : pyL r with
      | none => simp [q1, q2] at hp
      | some ps =>
        simp [q1, q2] at hp; subst hp
        cases q3 : pyD d' with
        | none => simp [q3] at hq
        | some p3 =>
          cases q4 : pyL r' with
          | none => simp [q3, q4] at hq
          | some ps' =>
            simp [q3, q4] at hq; subst hq
            simp only [PyData.eqvAll, eqL, eqD_py q1 q3, eqL_py q2 q4]
end
def okDep (d : D) : Bool := match depD d with | some n => decide (n ≤ 64) | none => false
def eqP (x y : D) : RP := match okDep x && okDep y with | true => some (.bl (eqD x y), false) | false => none
def neP (x y : D) : RP := match okDep x && okDep y with | true => some (.bl (!eqD x y), false) | false => none
theorem okDep_py {K : PySem.W.Frag} {d : D} (hK : G.K = K) (h : okDep d = true) (r : RepB G H S v d) : ∃ p, pyD d = some p ∧ Dp K H v p ∧ SeqAt.shaped p = true := by
  unfold okDep at h
  cases q : depD d with
  | none => rw [q] at h; cases h
  | some n =>
    rw [q] at h
    obtain ⟨p, h1, h2⟩ := depD_py q
    obtain ⟨h3, h4⟩ := pyD_okB hK r h1
    refine ⟨p, h1, h3, ?_⟩
    unfold SeqAt.shaped
    have := of_decide_eq_true h
    rw [h4, Bool.true_and, decide_eq_true_eq, h2]; exact this
theorem eqP_ok {K : PySem.W.Frag} (hK : G.K = K) : P2 G (rEqD K) eqP := fun H S v w x y d o Q hS rx ry e k => by
  unfold eqP at e
  split at e
  · rename_i h
    cases e
    obtain ⟨hx, hy⟩ := Bool.and_eq_true_iff.mp h
    obtain ⟨p, h1, h2, h3⟩ := okDep_py hK hx rx
    obtain ⟨q, k1, k2, k3⟩ := okDep_py hK hy ry
    exact ⟨p, q, h2, k2, h3, k3, by rw [eqD_py h1 k1]; exact k_bl k⟩
  · cases e
theorem neP_ok {K : PySem.W.Frag} (hK : G.K = K) : P2 G (rNeD K) neP := fun H S v w x y d o Q hS rx ry e k => by
  unfold neP at e
  split at e
  · rename_i h
    cases e
    obtain ⟨hx, hy⟩ := Bool.and_eq_true_iff.mp h
    obtain ⟨p, h1, h2, h3⟩ := okDep_py hK hx rx
    obtain ⟨q, k1, k2, k3⟩ := okDep_py hK hy ry
    exact ⟨p, q, h2, k2, h3, k3, by rw [eqD_py h1 k1]; exact k_bl k⟩
  · cases e
def isN : D → Bool
  | .non => true
  | _ => false
def isNP : D → D → RP
  | x, .non => some (.bl (isN x), false)
  | _, _ => none
def isNotNP : D → D → RP
  | x, .non => some (.bl (!isN x), false)
  | _, _ => none
theorem none_of_rep {d : D} (h : RepB G H S v d) : decide (v = .non) = isN d := by
  rcases h with h | ⟨a, rfl, h⟩
  · cases h <;> rfl
  · cases d <;> first | exact h.elim | rfl
theorem isNP_ok : P2 G (fun x y H Q => y = .non ∧ Q (.bl (decide (x = .non))) H) isNP := fun H S v w x y d o Q hS rx ry e k => by
  cases y <;> simp only [isNP] at e <;> (try cases e)
  exact ⟨ry.non, by rw [none_of_rep rx]; exact k_bl k⟩
theorem isNotNP_ok : P2 G (fun x y H Q => y = .non ∧ Q (.bl (!decide (x = .non))) H) isNotNP := fun H S v w x y d o Q hS rx ry e k => by
  cases y <;> simp only [isNotNP] at e <;> (try cases e)
  exact ⟨ry.non, by rw [none_of_rep rx]; exact k_bl k⟩

/-! < of texts -/
def strLt (x y : Str) : Bool := decide (x.cps.toList < y.cps.toList)
def ltP : D → D → RP
  | .int i, .int j => some (.bl (decide (i < j)), false)
  | .str x, .str y => some (.bl (strLt x y), false)
  | _, _ => none
def rLtAll : R2 := fun x y H Q => rI0 (fun i j => .bl (decide (i < j))) x y H Q ∨ (∃ i j, x = .str i ∧ y = .str j ∧ Q (.bl (decide (i.cps.toList < j.cps.toList))) H)
theorem op_ltAll : OpR X (compareOp .Lt) rLtAll := op_lt.or op_lt_str
theorem ltP_ok : P2 G rLtAll ltP := fun H S v w x y d o Q hS rx ry e k => by
  cases x <;> cases y <;> simp only [ltP] at e <;> (try cases e)
  · exact .inl ⟨_, _, rx.int, ry.int, k_bl k⟩
  · exact .inr ⟨_, _, rx.str.1, ry.str.1, k_bl k⟩

/-! in -/
def flatD : D → Bool
  | .non => true | .bl _ => true | .int _ => true | .str _ => true | _ => false
def flatVal : D → V
  | .non => .non | .bl b => .bl b | .int i => .int i | .str x => .str x | _ => .non
theorem flat_rep {d : D} (f : flatD d = true) (h : RepB G H S v d) : v = flatVal d := by
  cases d <;> first
    | exact h.non
    | exact h.bl
    | exact h.int
    | exact h.str.1
    | cases f
theorem flat_repL : ∀ {vs : List V} {ds : List D}, RepL G H S vs ds → ds.all flatD = true → vs = ds.map flatVal
  | _, _, .nil, _ => rfl
  | _, _, .cons (d := d) (ds := ds) r rs, f => by
    have f : (flatD d && ds.all flatD) = true := f
    obtain ⟨f1, f2⟩ := Bool.and_eq_true_iff.mp f
    rw [List.map_cons, ← flat_rep f1 (.inl r), ← flat_repL rs f2]
theorem flatV_flatVal {d : D} (f : flatD d = true) : flatV (flatVal d) = true := by cases d <;> first | rfl | cases f
theorem flatVs_flatVal : ∀ {ds : List D}, ds.all flatD = true → (ds.map flatVal).all flatV = true
  | [], _ => rfl
  | d :: ds, f => by
    have f : (flatD d && ds.all flatD) = true := f
    obtain ⟨f1, f2⟩ := Bool.and_eq_true_iff.mp f
    rw [List.map_cons, List.all_cons, flatV_flatVal f1, flatVs_flatVal f2]; rfl
theorem eqV_flat {x y : D} (fx : flatD x = true) (fy : flatD y = true) : eqV (flatVal x) (flatVal y) = eqD x y := by
  cases x <;> cases y <;> first | (cases fx; done) | (cases fy; done) | (simp [eqV, flatVal, eqD]; done) | skip
  all_goals (simp only [flatVal, eqV, eqD]; try (rename_i a b; cases a <;> first | rfl | (cases b <;> rfl) | skip))
end
end DL

set_option Elab.async false
set_option linter.all false
set_option maxRecDepth 100000
set_option maxHeartbeats 1000000
/-! DL6: more primitives: in, len, all, any, sum, sorted, list, tuple, int, abs, items, slices, join; lists changed. -/
namespace DL
open PySem L2
section
variable {X : Cx} {G : Ctx} {g : Gh} {W : WX} {σ : St} {H : Hp} {S : Sset} {v w : V} {Q : VK}
/-! ### in -/
def hasD (x : D) (ys : List D) : Bool := ys.any fun y => eqD y x
theorem inV_hasD {x : D} (fx : flatD x = true) : ∀ {ys : List D}, ys.all flatD = true → inV (flatVal x) (ys.map flatVal) = hasD x ys
  | [], _ => rfl
  | y :: ys, f => by
    have f : (flatD y && ys.all flatD) = true := f
    obtain ⟨f1, f2⟩ := Bool.and_eq_true_iff.mp f
    have ih := inV_hasD fx f2
    unfold inV hasD at *
    rw [List.map_cons, List.any_cons, List.any_cons, eqV_flat f1 fx, ih]
def inSeq (neg : Bool) (x : D) (ys : List D) : RP := match flatD x && ys.all flatD with | true => some (.bl (xor neg (hasD x ys)), false) | false => none
def inStr (neg : Bool) (x z : Str) : RP := match x.cps.toList with
  | [c] => some (.bl (xor neg (decide (c ∈ z.cps.toList))), false)
  | _ => none
def inP (neg : Bool) : D → D → RP
  | x, .lst ys => inSeq neg x ys
  | x, .tup ys => inSeq neg x ys
  | .str x, .str z => inStr neg x z
  | _, _ => none
def rInAll (K : PySem.W.Frag) (neg : Bool) : R2 := fun x y H Q => rIn K neg x y H Q ∨ ∃ (c : Nat) (z : Str), x = .str ⟨#[c]⟩ ∧ y = .str z ∧ Q (.bl (if neg then !decide (c ∈ z.cps.toList) else decide (c ∈ z.cps.toList))) H
theorem op_inAll : OpR X (compareOp .In) (rInAll X.K false) := op_in_seq.or op_in_sign
theorem op_notInAll : OpR X (compareOp .NotIn) (rInAll X.K true) := op_notIn_seq.or op_notIn_sign
theorem xor_if (neg b : Bool) : (if neg = true then !b else b) = xor neg b := by cases neg <;> cases b <;> rfl
theorem inP_ok {K : PySem.W.Frag} {neg : Bool} (hK : G.K = K) : P2 G (rInAll K neg) (inP neg) := fun H S v w x y d o Q hS rx ry e k => by
  have seq : ∀ ys : List D, inSeq neg x ys = some (d, o) → (∃ a vs, w = .ref a ∧ (SqL K H a vs ∨ SqT K H a vs) ∧ RepL G H S vs ys) → rIn K neg v w H Q := fun ys e ⟨a, vs, hw, h1, h2⟩ => by
    unfold inSeq at e
    split at e
    · rename_i f
      obtain ⟨f1, f2⟩ := Bool.and_eq_true_iff.mp f
      cases e
      have e1 := flat_rep f1 rx
      have e2 := flat_repL h2 f2
      refine ⟨a, vs, hw, h1, by rw [e1]; exact flatV_flatVal f1, by rw [e2]; exact flatVs_flatVal f2, ?_⟩
      rw [e1, e2, inV_hasD f1 f2, xor_if]
      exact k_bl k
    · cases e
  cases y with
  | lst ys =>
    obtain ⟨a, vs, h1, h2, _, h3⟩ := ry.lst
    exact .inl (seq ys (by cases x <;> exact e) ⟨a, vs, h1, .inl (SqL.of h2), h3⟩)
  | tup ys =>
    obtain ⟨a, vs, h1, h2, _, h3⟩ := ry.tup hK
    exact .inl (seq ys (by cases x <;> exact e) ⟨a, vs, h1, .inr h2, h3⟩)
  | str z =>
    cases x with
    | str x =>
      simp only [inP, inStr] at e
      split at e
      · rename_i c hc
        cases e
        obtain ⟨r1, _⟩ := rx.str
        obtain ⟨r2, _⟩ := ry.str
        have : x = ⟨#[c]⟩ := by
          cases x with
          | mk cps =>
            have hc : cps.toList = [c] := hc
            have : cps = #[c] := by rw [← Array.toArray_toList (xs := cps), hc]
            rw [this]
        refine .inr ⟨c, z, by rw [r1, this], r2, ?_⟩
        rw [xor_if]; exact k_bl k
      · cases e
    | _ => cases e
  | _ => cases x <;> cases e
/-! ### in, over a dict's keys -/
def hasK (neg : Bool) : D → D → RP
  | x, .dct kvs => match keyD x with
    | some k => some (.bl (xor neg (lookD kvs k).isSome), false)
    | none => none
  | _, _ => none
theorem hasK_ok {neg : Bool} : P2 G (fun y x H2 Q => ∃ a o, x = .ref a ∧ DGet H2 a y o ∧ Q (.bl (if neg then !o.isSome else o.isSome)) H2) (hasK neg) := fun H S v w x y d o Q hS rx ry e k => by
  cases y with
  | dct kvs =>
    simp only [hasK] at e
    cases q : keyD x with
    | none => rw [q] at e; cases e
    | some key =>
      rw [q] at e
      cases e
      obtain ⟨a, vs, rfl, h1, h2, h3⟩ := ry.dct
      obtain ⟨rfl, _⟩ := keyD_ok q rx
      refine ⟨a, _, rfl, DGet.k h1, ?_⟩
      have : (valV vs key).isSome = (lookD kvs key).isSome := by
        cases q2 : lookD kvs key with
        | none => rw [(h3.look (κ' := ()) (k := key)).2 q2]; rfl
        | some d' => obtain ⟨v, e1, _⟩ := (h3.look (κ' := ()) (k := key)).1 d' q2; rw [e1]; rfl
      rw [this, xor_if]; exact k_bl k
  | _ => cases e
theorem de_din {a b : Expr} {oa ob : Opn} {pos : Pos} (hu : X.A.units + 1 < cLine) (ha : DO X G W a oa) (hb : DO X G W b ob) (hm : behindInMarks .In b = false := by rfl) : DE X G W (.Compare a [.In] [b] pos) (mO2 (hasK false) oa ob) :=
  peImp (pe_cmp (pc_din hu ha.pe hb.pe) hm) fun σ H Q h => tO2 hasK_ok h
theorem de_dnotin {a b : Expr} {oa ob : Opn} {pos : Pos} (hu : X.A.units + 1 < cLine) (ha : DO X G W a oa) (hb : DO X G W b ob) (hm : behindInMarks .NotIn b = false := by rfl) : DE X G W (.Compare a [.NotIn] [b] pos) (mO2 (hasK true) oa ob) :=
  peImp (pe_cmp (pc_dnotin hu ha.pe hb.pe) hm) fun σ H Q h => tO2 hasK_ok h
theorem dt_din {a b : Expr} {oa ob : Opn} {pos : Pos} (hu : X.A.units + 1 < cLine) (ha : DO X G W a oa) (hb : DO X G W b ob) (hm : behindInMarks .In b = false := by rfl) : DT X G W (.Compare a [.In] [b] pos) (mT (mO2 (hasK false) oa ob)) :=
  ptImp (pt_cmp (pc_din hu ha.pe hb.pe) hm) fun σ H Q h => tO2 hasK_ok (mT_ok h)
theorem dt_dnotin {a b : Expr} {oa ob : Opn} {pos : Pos} (hu : X.A.units + 1 < cLine) (ha : DO X G W a oa) (hb : DO X G W b ob) (hm : behindInMarks .NotIn b = false := by rfl) : DT X G W (.Compare a [.NotIn] [b] pos) (mT (mO2 (hasK true) oa ob)) :=
  ptImp (pt_cmp (pc_dnotin hu ha.pe hb.pe) hm) fun σ H Q h => tO2 hasK_ok (mT_ok h)

/-! ### len -/
def lenP : D → RP
  | .str x => some (.int x.length, false)
  | .lst xs => some (.int xs.length, false)
  | .tup xs => some (.int xs.length, false)
  | .scr xs => some (.int xs.length, false)
  | _ => none
theorem lenP_ok {K : PySem.W.Frag} (hK : G.K = K) : P1 G (fun v H Q => ∃ x n, [v] = [x] ∧ LenV K x H n ∧ Q (.int n) H) lenP := fun H S v x d o Q hS rx e k => by
  cases x <;> simp only [lenP] at e <;> (try cases e)
  · obtain ⟨rfl, h⟩ := rx.str
    exact ⟨_, _, rfl, ⟨h.1, rfl⟩, k_int k⟩
  · obtain ⟨a, vs, rfl, h1, h2, h3⟩ := rx.tup hK
    exact ⟨_, _, rfl, .inr ⟨vs, h1, rfl⟩, by rw [h3.length]; exact k_int k⟩
  · obtain ⟨a, vs, rfl, h1, h2, h3⟩ := rx.lst
    exact ⟨_, _, rfl, .inl ⟨vs, SqL.of h1, rfl⟩, by rw [h3.length]; exact k_int k⟩
  · obtain ⟨a, rfl, h1, _⟩ := rx.scr
    exact ⟨_, _, rfl, .inl ⟨_, scr_sq hK h1, rfl⟩, by rw [List.length_map]; exact k_int k⟩
/-! ### all, any, sum -/
def bls : List D → Option (List Bool)
  | [] => some []
  | .bl b :: r => (bls r).map (b :: ·)
  | _ => none
theorem bls_rep : ∀ {vs : List V} {ds : List D} {bs : List Bool}, RepL G H S vs ds → bls ds = some bs → vs = bs.map V.bl
  | _, _, _, .nil, e => by cases e; rfl
  | _, _, bs, .cons (d := d) (ds := ds) r rs, e => by
    cases d <;> simp only [bls] at e <;> (try cases e)
    cases q : bls ds with
    | none => simp [q] at e
    | some b' =>
      simp [q] at e; subst e
      cases r
      rw [bls_rep rs q]; rfl
def allP : D → RP
  | .lst xs => (bls xs).map fun bs => (.bl (bs.all id), false)
  | _ => none
def anyP : D → RP
  | .lst xs => (bls xs).map fun bs => (.bl (bs.any id), false)
  | _ => none
theorem allP_ok {K : PySem.W.Frag} : P1 G (fun v H Q => rAll K [v] H Q) allP := fun H S v x d o Q hS rx e k => by
  cases x <;> simp only [allP] at e <;> (try cases e)
  rename_i xs
  cases q : bls xs with
  | none => simp [q] at e
  | some bs =>
    simp [q] at e
    obtain ⟨rfl, rfl⟩ := e
    obtain ⟨a, vs, rfl, h1, h2, h3⟩ := rx.lst
    rw [bls_rep h3 q] at h1
    exact ⟨a, bs, rfl, SqL.of h1, by have := k_bl (H := H) k; simpa using this⟩
theorem anyP_ok {K : PySem.W.Frag} : P1 G (fun v H Q => rAny K [v] H Q) anyP := fun H S v x d o Q hS rx e k => by
  cases x <;> simp only [anyP] at e <;> (try cases e)
  rename_i xs
  cases q : bls xs with
  | none => simp [q] at e
  | some bs =>
    simp [q] at e
    obtain ⟨rfl, rfl⟩ := e
    obtain ⟨a, vs, rfl, h1, h2, h3⟩ := rx.lst
    rw [bls_rep h3 q] at h1
    exact ⟨a, bs, rfl, SqL.of h1, by have := k_bl (H := H) k; simpa using this⟩
def intsD : List D → Option (List Int)
  | [] => some []
  | .int b :: r => (intsD r).map (b :: ·)
  | _ => none
theorem ints_rep : ∀ {vs : List V} {ds : List D} {bs : List Int}, RepL G H S vs ds → intsD ds = some bs → vs = bs.map V.int
  | _, _, _, .nil, e => by cases e; rfl
  | _, _, bs, .cons (d := d) (ds := ds) r rs, e => by
    cases d <;> simp only [intsD] at e <;> (try cases e)
    cases q : intsD ds with
    | none => simp [q] at e
    | some b' =>
      simp [q] at e; subst e
      cases r
      rw [ints_rep rs q]; rfl
def strsD : List D → Option (List Str)
  | [] => some []
  | .str b :: r => (strsD r).map (b :: ·)
  | _ => none
theorem strs_rep : ∀ {vs : List V} {ds : List D} {bs : List Str}, RepL G H S vs ds → strsD ds = some bs → vs = bs.map V.str ∧ ∀ x ∈ bs, sOk x
  | _, _, _, .nil, e => by cases e; exact ⟨rfl, fun _ h => nomatch h⟩
  | _, _, bs, .cons (d := d) (ds := ds) r rs, e => by
    cases d <;> simp only [strsD] at e <;> (try cases e)
    cases q : strsD ds with
    | none => simp [q] at e
    | some b' =>
      simp [q] at e; subst e
      cases r with
      | str h =>
        obtain ⟨h1, h2⟩ := strs_rep rs q
        refine ⟨by rw [h1]; rfl, fun x hx => ?_⟩
        rcases List.mem_cons.mp hx with rfl | hx
        · exact h
        · exact h2 x hx
theorem rep_ints : ∀ ns : List Int, RepL G H S (ns.map V.int) (ns.map D.int)
  | [] => .nil
  | _ :: r => .cons .int (rep_ints r)
theorem rep_strs : ∀ {xs : List Str}, (∀ x ∈ xs, sOk x) → RepL G H S (xs.map V.str) (xs.map D.str)
  | [], _ => .nil
  | x :: r, h => .cons (.str (h x List.mem_cons_self)) (rep_strs fun y hy => h y (List.mem_cons_of_mem _ hy))
def sumP : D → RP
  | .lst xs => (intsD xs).map fun bs => (.int bs.sum, false)
  | _ => none
theorem sumP_ok {K : PySem.W.Frag} : P1 G (fun v H Q => rSum K [v] H Q) sumP := fun H S v x d o Q hS rx e k => by
  cases x <;> simp only [sumP] at e <;> (try cases e)
  rename_i xs
  cases q : intsD xs with
  | none => simp [q] at e
  | some bs =>
    simp [q] at e
    obtain ⟨rfl, rfl⟩ := e
    obtain ⟨a, vs, rfl, h1, h2, h3⟩ := rx.lst
    rw [ints_rep h3 q] at h1
    exact ⟨a, bs, rfl, SqL.of h1, k_int k⟩
/-! ### int, abs -/
def int1P : D → RP
  | .int i => some (.int i, false)
  | .bl b => some (.int (if b then 1 else 0), false)
  | _ => none
theorem int1P_ok : P1 G (fun v H Q => (∃ i, [v] = [V.int i] ∧ Q (.int i) H) ∨ ∃ k, [v] = [V.bl k] ∧ Q (.int (if k then 1 else 0)) H) int1P := fun H S v x d o Q hS rx e k => by
  cases x <;> simp only [int1P] at e <;> (try cases e)
  · exact .inr ⟨_, by rw [rx.bl], k_int k⟩
  · exact .inl ⟨_, by rw [rx.int], k_int k⟩
def absP : D → RP
  | .int i => some (.int (if i < 0 then -i else i), false)
  | _ => none
theorem absP_ok : P1 G (fun v H Q => ∃ i, [v] = [V.int i] ∧ Q (.int (if i < 0 then -i else i)) H) absP := fun H S v x d o Q hS rx e k => by
  cases x <;> simp only [absP] at e <;> (try cases e)
  exact ⟨_, by rw [rx.int], k_int k⟩
/-! ### list(x), tuple(x) -/
def listP : D → RP
  | .lst xs => some (.lst xs, true)
  | .tup xs => some (.lst xs, true)
  | .scr xs => some (.lst (xs.map D.int), true)
  | _ => none
theorem listP_ok {K : PySem.W.Frag} (hK : G.K = K) (hz : ∀ (a : Addr) (o : Obj) (ns : List Int), True) : P1 G (fun v H Q => ∃ p ys, [v] = [V.ref p] ∧ (SqL K H p ys ∨ SqT K H p ys) ∧ ∀ l, H l = none → Q (.ref l) (L2.upd H l (.lst ys)))
    (fun x => match x with | .scr _ => none | x => listP x) := fun H S v x d o Q hS rx e k => by
  cases x <;> simp only [listP] at e <;> (try cases e)
  · obtain ⟨a, vs, rfl, h1, h2, h3⟩ := rx.tup hK
    exact ⟨a, vs, rfl, .inr h1, fun l hl => k _ _ (New.lst hS hl h3 h2)⟩
  · obtain ⟨a, vs, rfl, h1, h2, h3⟩ := rx.lst
    exact ⟨a, vs, rfl, .inl (SqL.of h1), fun l hl => k _ _ (New.lst hS hl h3 h2)⟩
def tupleP : D → RP
  | .lst xs => some (.tup xs, false)
  | .tup xs => some (.tup xs, false)
  | _ => none
theorem tupleP_ok {K : PySem.W.Frag} (hK : G.K = K) : P1 G (fun v H Q => ∃ p ys, [v] = [V.ref p] ∧ ((SqL K H p ys ∧ ∀ l, H l = none → Q (.ref l) (L2.upd H l (.tup ys))) ∨ (SqT K H p ys ∧ Q (.ref p) H))) tupleP := fun H S v x d o Q hS rx e k => by
  cases x <;> simp only [tupleP] at e <;> (try cases e)
  · obtain ⟨a, vs, rfl, h1, h2, h3⟩ := rx.tup hK
    refine ⟨a, vs, rfl, .inr ⟨h1, k _ _ (New.same ?_)⟩⟩
    rcases rx with h | ⟨_, _, h⟩
    · exact h
    · exact h.elim
  · obtain ⟨a, vs, rfl, h1, h2, h3⟩ := rx.lst
    exact ⟨a, vs, rfl, .inl ⟨SqL.of h1, fun l hl => k _ _ (New.tup hS hl h3 h2)⟩⟩
/-! ### items -/
theorem atI_rep {vs : List V} {ds : List D} {i : Int} {d : D} (r : RepL G H S vs ds) (e : atI ds i = some d) : ∃ v, atI vs i = some v ∧ Rep G H S v d := by
  unfold atI at *
  rw [r.length]
  cases q : ixN ds.length i with
  | none => rw [q] at e; cases e
  | some j =>
    rw [q] at e
    have e : ds[j]? = some d := e
    obtain ⟨v, h1, h2⟩ := r.get e
    exact ⟨v, h1, h2⟩
def ixP : D → D → RP
  | .lst ds, .int i => (atI ds i).map fun d => (d, false)
  | .tup ds, .int i => (atI ds i).map fun d => (d, false)
  | .str z, .int i => (atI z.cps.toList i).map fun c => (.str ⟨#[c]⟩, false)
  | _, _ => none
theorem sOk_one {z : Str} {c : Nat} (h : sOk z) (hc : c ∈ z.cps.toList) : sOk ⟨#[c]⟩ := by
  refine ⟨by show 1 ≤ sizeLine; decide, ?_⟩
  have := h.2
  unfold PyData.strOk at *
  rw [← Array.all_toList, List.all_eq_true] at this
  have := this c hc
  simpa using this
theorem atI_mem {α : Type} {xs : List α} {i : Int} {v : α} (h : atI xs i = some v) : v ∈ xs := by
  obtain ⟨j, _, h, _⟩ := atI_get h
  exact List.mem_of_getElem? h
theorem ixP_ok {K : PySem.W.Frag} (hK : G.K = K) : P2 G (rIx K) ixP := fun H S v w x y d o Q hS rx ry e k => by
  cases x <;> cases y <;> simp only [ixP] at e <;> (try cases e)
  · rename_i z i
    cases q : atI z.cps.toList i with
    | none => simp [q] at e
    | some c =>
      simp [q] at e
      obtain ⟨rfl, rfl⟩ := e
      obtain ⟨r1, h⟩ := rx.str
      exact .inr (.inr ⟨z, i, c, r1, ry.int, h.1, q, k _ _ (New.same (.str (sOk_one h (atI_mem q))))⟩)
  · rename_i ds i
    cases q : atI ds i with
    | none => simp [q] at e
    | some d' =>
      simp [q] at e
      obtain ⟨rfl, rfl⟩ := e
      obtain ⟨a, vs, rfl, h1, h2, h3⟩ := rx.tup hK
      obtain ⟨u, q1, r⟩ := atI_rep h3 q
      exact .inr (.inl ⟨a, vs, i, u, rfl, ry.int, h1, q1, k _ _ (New.same r)⟩)
  · rename_i ds i
    cases q : atI ds i with
    | none => simp [q] at e
    | some d' =>
      simp [q] at e
      obtain ⟨rfl, rfl⟩ := e
      obtain ⟨a, vs, rfl, h1, h2, h3⟩ := rx.lst
      obtain ⟨u, q1, r⟩ := atI_rep h3 q
      exact .inl ⟨a, vs, i, u, rfl, ry.int, SqL.of h1, q1, k _ _ (New.same r)⟩
end
end DL

set_option Elab.async false
set_option linter.all false
set_option maxRecDepth 100000
set_option maxHeartbeats 1000000
/-! DL7: statements. -/
namespace DL
open PySem L2
def PostS (G : Ctx) (W : WX) (g : Gh) (H : Hp) (S : Sset) (Z : Ends) : RS → Prop
  | .nx e => ∀ σ' H' S', Grow S H S' H' → SI G g σ' H' e S' [] → Z.nx σ' H'
  | .rt d o e => ∀ v σ' H' S', Grow S H S' H' → Val G g σ' H' e S' [] v d o → Z.rt v H'
  | .bk e => ∀ σ' H' S', Grow S H S' H' → SI G g σ' H' e S' [] → Z.bk σ' H'
  | .ct e => ∀ σ' H' S', Grow S H S' H' → SI G g σ' H' e S' [] → Z.ct σ' H'
  | .exc c fs e => ∀ cls dd σ' H' S', Grow S H S' H' → SI G g σ' H' e S' [] → ExcRep G H' S' cls dd c fs → W cls dd σ' H'
  | .bad => False
def trS (G : Ctx) (W : WX) (m : MS) : TS := fun Z σ H => ∃ g env S, SI G g σ H env S [] ∧ PostS G W g H S Z (m env)
abbrev DS (X : Cx) (G : Ctx) (W : WX) (st : Stmt) (m : MS) := PS X st (trS G W m)
abbrev DSs (X : Cx) (G : Ctx) (W : WX) (st : List Stmt) (m : MS) := PSs X st (trS G W m)
section
variable {X : Cx} {G : Ctx} {W : WX} {g : Gh} {σ : St} {H H1 : Hp} {env env1 : EV} {S S1 : Sset} {P : List (Addr × D)} {Z : Ends} {v : V} {d : D} {o : Bool} {st : Stmt} {rest : List Stmt} {a b : MS} {e : Expr} {m : ME} {pos : Pos}
theorem PostS.mono {r : RS} (gr : Grow S H S1 H1) (h : PostS G W g H S Z r) : PostS G W g H1 S1 Z r := by
  cases r with
  | nx e => exact fun σ' H' S' g' q => h σ' H' S' (gr.trans g') q
  | rt d o e => exact fun v σ' H' S' g' q => h v σ' H' S' (gr.trans g') q
  | bk e => exact fun σ' H' S' g' q => h σ' H' S' (gr.trans g') q
  | ct e => exact fun σ' H' S' g' q => h σ' H' S' (gr.trans g') q
  | exc c fs e => exact fun cls dd σ' H' S' g' q r => h cls dd σ' H' S' (gr.trans g') q r
  | bad => exact h
def mNext : MS := fun e => .nx e
def mSeq (a b : MS) : MS := fun env => match a env with
  | .nx e => b e
  | r => r
theorem dss_nil : DSs X G W [] mNext := pssImp pss_nil fun Z σ H ⟨g, env, S, I, h⟩ => h σ H S Grow.rfl' I
theorem dss_cons (h1 : DS X G W st a) (h2 : DSs X G W rest b) : DSs X G W (st :: rest) (mSeq a b) :=
  pssImp (pss_cons h1 h2) fun Z σ H ⟨g, env, S, I, h⟩ => by
    refine ⟨g, env, S, I, ?_⟩
    unfold mSeq at h
    cases q : a env with
    | nx e =>
      simp only [q] at h
      exact fun σ' H' S' gr I' => ⟨g, e, S', I', h.mono gr⟩
    | rt d o e => simp only [q] at h; exact h
    | bk e => simp only [q] at h; exact h
    | ct e => simp only [q] at h; exact h
    | exc c fs e => simp only [q] at h; exact h
    | bad => simp only [q] at h; exact h
theorem dss_one (h1 : DS X G W st a) : DSs X G W [st] a := pss_one h1
def mPass : MS := fun e => .nx e
def mBrk : MS := fun e => .bk e
def mCnt : MS := fun e => .ct e
theorem ds_pass : DS X G W (.Pass pos) mPass := psImp ps_pass fun Z σ H ⟨g, env, S, I, h⟩ => h σ H S Grow.rfl' I
theorem ds_brk : DS X G W (.Break pos) mBrk := psImp ps_break fun Z σ H ⟨g, env, S, I, h⟩ => h σ H S Grow.rfl' I
theorem ds_cnt : DS X G W (.Continue pos) mCnt := psImp ps_continue fun Z σ H ⟨g, env, S, I, h⟩ => h σ H S Grow.rfl' I
/-! ### statements over an expression -/
def bindS (m : ME) (k : D → Bool → MS) : MS := fun env => match m env with
  | .ok d o e => k d o e
  | .exc c fs e => .exc c fs e
  | .bad => .bad
theorem bindS_ok {m : ME} {k : D → Bool → MS} {R : VK} (I : SI G g σ H env S []) (h : PostS G W g H S Z (bindS m k env))
    (hk : ∀ d o env1 v H1 S1, Grow S H S1 H1 → Val G g σ H1 env1 S1 [] v d o → PostS G W g H1 S1 Z (k d o env1) → R v H1) : trE G W m σ H R := by
  refine ⟨g, env, S, [], I, ?_⟩
  unfold bindS at h
  cases q : m env with
  | ok d o e =>
    rw [q] at h
    exact fun v H1 S1 gr hv => hk d o e v H1 S1 gr hv (h.mono gr)
  | exc c fs e => rw [q] at h; exact fun cls dd H' S' gr I' r => h cls dd σ H' S' gr I' r
  | bad => rw [q] at h; exact h
def bindTS (m : MT) (k : Bool → MS) : MS := fun env => match m env with
  | .ok b e => k b e
  | .exc c fs e => .exc c fs e
  | .bad => .bad
theorem bindTS_ok {m : MT} {k : Bool → MS} {R : Bool → Hp → Prop} (I : SI G g σ H env S []) (h : PostS G W g H S Z (bindTS m k env))
    (hk : ∀ b env1 H1 S1, Grow S H S1 H1 → SI G g σ H1 env1 S1 [] → PostS G W g H1 S1 Z (k b env1) → R b H1) : trT G W m σ H R := by
  refine ⟨g, env, S, [], I, ?_⟩
  unfold bindTS at h
  cases q : m env with
  | ok b e =>
    rw [q] at h
    exact fun H1 S1 gr I1 => hk b e H1 S1 gr I1 (h.mono gr)
  | exc c fs e => rw [q] at h; exact fun cls dd H' S' gr I' r => h cls dd σ H' S' gr I' r
  | bad => rw [q] at h; exact h
theorem Val.drop (h : Val G g σ H env S P v d o) : SI G g σ H env S P := by
  cases o with
  | false => exact h.1
  | true => obtain ⟨a, _, I⟩ := h; exact I.pop
def mExpr (m : ME) : MS := bindS m fun _ _ e => .nx e
theorem ds_expr (he : DE X G W e m) (hs : swapsWith e none pos.line X.env = pure false := by rfl) : DS X G W (.Expr e pos) (mExpr m) :=
  psImp (ps_expr he hs) fun Z σ H ⟨g, env, S, I, h⟩ => bindS_ok I h fun d o env1 v H1 S1 gr hv h => h σ H1 S1 Grow.rfl' hv.drop
theorem ds_doc {x j pos pos'} : DS X G W (.Expr (.Constant (.str x) j pos) pos') mPass := psImp ps_doc fun Z σ H ⟨g, env, S, I, h⟩ => h σ H S Grow.rfl' I
def mRet (m : ME) : MS := bindS m fun d o e => .rt d o e
theorem ds_ret (he : DE X G W e m) : DS X G W (.Return (some e) pos) (mRet m) :=
  psImp (ps_ret he) fun Z σ H ⟨g, env, S, I, h⟩ => bindS_ok I h fun d o env1 v H1 S1 gr hv h => h v σ H1 S1 Grow.rfl' hv
def mRetN : MS := fun e => .rt .non false e
theorem ds_retN : DS X G W (.Return none pos) mRetN := psImp ps_retN fun Z σ H ⟨g, env, S, I, h⟩ => h _ σ H S Grow.rfl' ⟨I, .non⟩
def mIfS (t : MT) (a b : MS) : MS := bindTS t fun k => match k with | true => a | false => b
theorem ds_if {c : Expr} {mc : MT} {sa sb : List Stmt} (hc : DT X G W c mc) (ha : DSs X G W sa a) (hb : DSs X G W sb b) : DS X G W (.If c sa sb pos) (mIfS mc a b) :=
  psImp (ps_if hc ha hb) fun Z σ H ⟨g, env, S, I, h⟩ => bindTS_ok I h fun k env1 H1 S1 gr I1 h => by
    cases k with
    | true => exact iteT ⟨g, env1, S1, I1, h⟩
    | false => exact iteF ⟨g, env1, S1, I1, h⟩
/-! ### names stored -/
def tg (o : Bool) : Tag := match o with | true => .o | false => .s
/-- a slot that may be stored -/
def freeE (env : EV) (i : Nat) : Bool := match env[i]? with
  | some (some (_, .p)) => false
  | some _ => true
  | none => false
theorem freeE_ok {i : Nat} (h : freeE env i = true) : ∃ r, env[i]? = some r ∧ ∀ e, r ≠ some (e, .p) := by
  unfold freeE at h
  cases q : env[i]? with
  | none => rw [q] at h; cases h
  | some r =>
    rw [q] at h
    refine ⟨r, rfl, fun e z => ?_⟩
    subst z; cases h
def setE (i : Nat) (d : D) (o : Bool) : MS := fun env => match freeE env i with
  | true => .nx (env.set i (some (d, tg o)))
  | false => .bad
theorem Val.set {i : Nat} (hv : Val G g σ H env S P v d o) (h : freeE env i = true) : SI G g (σ.set i (some v)) H (env.set i (some (d, tg o))) S P := by
  obtain ⟨r, h1, h2⟩ := freeE_ok h
  cases o with
  | false => exact hv.1.setS h1 h2 hv.2
  | true =>
    obtain ⟨a, rfl, I⟩ := hv
    exact I.setO h1 h2
theorem setE_ok {i : Nat} (hv : Val G g σ H env S [] v d o) (h : PostS G W g H S Z (setE i d o env)) : Z.nx (σ.set i (some v)) H := by
  unfold setE at h
  cases q : freeE env i with
  | false => rw [q] at h; exact h.elim
  | true => rw [q] at h; exact h _ _ _ Grow.rfl' (hv.set q)
def mSet (i : Nat) (m : ME) : MS := bindS m fun d o => setE i d o
theorem ds_set {i : Nat} {x : Str} {pos' : Pos} (hN : X.N.Nodup) (hi : X.N[i]? = some x) (hx : Loc X.env.scope x) (he : DE X G W e m) (hs : swapsWith e (some (.Name x pos')) pos.line X.env = pure false := by rfl)
    (hf : X.fn x = true ∨ X.env.scope.names.lookup x = some .local := by first | exact .inl rfl | exact .inr rfl | assumption) : DS X G W (.Assign [.Name x pos'] e pos) (mSet i m) :=
  psImp (ps_set hN hi hx he hs hf) fun Z σ H ⟨g, env, S, I, h⟩ => bindS_ok I h fun d o env1 v H1 S1 gr hv h => setE_ok hv h
/-- a, b = x, y -/
def mPar (i j : Nat) (m1 m2 : ME) : MS := bindS m1 fun d1 o1 => bindS m2 fun d2 o2 env => match freeE env i && (freeE env j && decide (i ≠ j)) with
  | true => .nx ((env.set i (some (d1, tg o1))).set j (some (d2, tg o2)))
  | false => .bad
theorem PostE.ofS {Q : VK} {m2 : ME} {k : D → Bool → MS} (h : PostS G W g H S Z (bindS m2 k env))
    (hk : ∀ d o env1 v H1 S1, m2 env = .ok d o env1 → Grow S H S1 H1 → Val G g σ H1 env1 S1 P v d o → PostS G W g H1 S1 Z (k d o env1) → Q v H1) (hP : ∀ H' e' S', SI G g σ H' e' S' P → SI G g σ H' e' S' []) : PostE G W g σ H S P Q (m2 env) := by
  unfold bindS at h
  cases q : m2 env with
  | ok d o e =>
    rw [q] at h
    exact fun v H1 S1 gr hv => hk d o e v H1 S1 q gr hv (h.mono gr)
  | exc c fs e => rw [q] at h; exact fun cls dd H' S' gr I' r => h cls dd σ H' S' gr (hP _ _ _ I') r
  | bad => rw [q] at h; exact h
theorem SI.nilP (I : SI G g σ H env S P) : SI G g σ H env S [] := by
  induction P with
  | nil => exact I
  | cons p P ih => exact ih I.pop
theorem SI.rot {x y : Addr × D} (I : SI G g σ H env S (x :: y :: P)) : SI G g σ H env S (y :: x :: P) := by
  have pu := I.pun
  rw [List.map_cons, List.map_cons, List.nodup_cons, List.nodup_cons] at pu
  have hx := I.pend x List.mem_cons_self
  refine (I.pop.pop.push hx.1 hx.2 (fun p hp q => ?_) (I.pdis x List.mem_cons_self)).push (I.pend y (List.mem_cons_of_mem _ List.mem_cons_self)).1 (I.pend y (List.mem_cons_of_mem _ List.mem_cons_self)).2 (fun p hp q => ?_) (I.pdis y (List.mem_cons_of_mem _ List.mem_cons_self))
  · exact pu.1 (List.mem_cons_of_mem _ (q ▸ List.mem_map_of_mem hp))
  · rcases List.mem_cons.mp hp with rfl | hp
    · exact pu.1 (by rw [q]; exact List.mem_cons_self)
    · exact pu.2.1 (q ▸ List.mem_map_of_mem hp)
theorem set_free {i j : Nat} {r : D × Tag} (hij : i ≠ j) (h : freeE env j = true) : freeE (env.set i (some r)) j = true := by
  unfold freeE at *
  rw [List.getElem?_set_ne hij]; exact h
theorem ds_par {i j : Nat} {x y : Str} {e1 e2 : Expr} {m1 m2 : ME} {px py pt : Pos} {kt k2 pt2} (hc : X.calm = true) (hN : X.N.Nodup) (hi : X.N[i]? = some x) (hj : X.N[j]? = some y) (hij : i ≠ j)
    (hx : X.env.scope.names.lookup x = some .local) (hy : X.env.scope.names.lookup y = some .local) (h1 : DE X G W e1 m1) (h2 : DE X G W e2 m2)
    (hw : swappedStores [.Tuple [.Name x px, .Name y py] kt pt] (.Tuple [e1, e2] k2 pt2) X.env = pure (some [x, y]) := by rfl)
    (hs : swapsWithSole [.Tuple [.Name x px, .Name y py] kt pt] (.Tuple [e1, e2] k2 pt2) pos.line X.env = pure false := by rfl)
    (q1 : starEach (e1 :: e2 :: []) X.env = (false, eval e1 X.env) :: starEach [e2] X.env := by rfl) (q2 : starEach (e2 :: []) X.env = (false, eval e2 X.env) :: starEach [] X.env := by rfl) :
    DS X G W (.Assign [.Tuple [.Name x px, .Name y py] kt pt] (.Tuple [e1, e2] k2 pt2) pos) (mPar i j m1 m2) :=
  psImp (ps_par hc hN hi hj hij hx hy (pa_cons h1 (pa_cons h2 pa_nil q2) q1) hw hs) fun Z σ H ⟨g, env, S, I, h⟩ => bindS_ok I h fun d1 o1 env1 v H1 S1 gr hv h => by
    -- the first value is pending while the second is reckoned
    cases o1 with
    | false =>
      obtain ⟨I1, r1⟩ := hv
      refine ⟨g, env1, S1, [], I1, PostE.ofS h (fun d2 o2 env2 w H2 S2 _ g2 hv2 h => ?_) (fun _ _ _ I => I)⟩
      cases q : freeE env2 i && (freeE env2 j && decide (i ≠ j)) with
      | false => simp only [q] at h; exact h.elim
      | true =>
        simp only [q] at h
        obtain ⟨f1, f2⟩ := Bool.and_eq_true_iff.mp q
        obtain ⟨f2, _⟩ := Bool.and_eq_true_iff.mp f2
        obtain ⟨r, k1, k2⟩ := freeE_ok f1
        refine ⟨v, w, rfl, h _ _ S2 Grow.rfl' ?_⟩
        cases o2 with
        | false => exact ((hv2.1.setS k1 k2 (r1.mono g2))).setS (freeE_ok (set_free hij f2)).choose_spec.1 (freeE_ok (set_free hij f2)).choose_spec.2 hv2.2
        | true =>
          obtain ⟨b, rfl, I2⟩ := hv2
          exact (I2.setS k1 k2 (r1.mono g2)).setO (freeE_ok (set_free hij f2)).choose_spec.1 (freeE_ok (set_free hij f2)).choose_spec.2
    | true =>
      obtain ⟨a, rfl, I1⟩ := hv
      refine ⟨g, env1, S1, [(a, d1)], I1, PostE.ofS h (fun d2 o2 env2 w H2 S2 _ g2 hv2 h => ?_) (fun _ _ _ I => I.nilP)⟩
      cases q : freeE env2 i && (freeE env2 j && decide (i ≠ j)) with
      | false => simp only [q] at h; exact h.elim
      | true =>
        simp only [q] at h
        obtain ⟨f1, f2⟩ := Bool.and_eq_true_iff.mp q
        obtain ⟨f2, _⟩ := Bool.and_eq_true_iff.mp f2
        obtain ⟨r, k1, k2⟩ := freeE_ok f1
        refine ⟨.ref a, w, rfl, h _ _ S2 Grow.rfl' ?_⟩
        cases o2 with
        | false => exact (hv2.1.setO k1 k2).setS (freeE_ok (set_free hij f2)).choose_spec.1 (freeE_ok (set_free hij f2)).choose_spec.2 hv2.2
        | true =>
          obtain ⟨b, rfl, I2⟩ := hv2
          exact (I2.rot.setO k1 k2).setO (freeE_ok (set_free hij f2)).choose_spec.1 (freeE_ok (set_free hij f2)).choose_spec.2
/-! ### a local name moved out -/
theorem SI.moveVar {i : Nat} (I : SI G g σ H env S P) (h : env[i]? = some (some (d, .o))) : ∃ a, σ[i]? = some (some (.ref a)) ∧ SI G g σ H (env.set i none) S ((a, d) :: P) := by
  obtain ⟨a, h1, h2, h3⟩ := I.own i d .o (by decide) h
  have old : ∀ {j : Nat} {e : D} {t : Tag}, (env.set i none)[j]? = some (some (e, t)) → i ≠ j ∧ env[j]? = some (some (e, t)) := fun {j e t} q => by
    rcases get_set q with ⟨_, q⟩ | q
    · cases q
    · exact q
  have I' : SI G g σ H (env.set i none) S P := by
    refine ⟨by rw [List.length_set]; exact I.len, fun j e q => I.shr j e (old q).2, fun j e t ht q => I.own j e t ht (old q).2, fun j k e e' t u b ht hu q q' => I.uniq j k e e' t u b ht hu (old q).2 (old q').2, fun j e q => I.pin j e (old q).2, fun b hb hn => ?_, I.pend, I.pun, fun p hp j e t ht q => I.pdis p hp j e t ht (old q).2, I.fr, I.sh0, I.sh1, I.shH, I.tab, I.nt⟩
    obtain ⟨e, q⟩ := I.pin0 b hb hn
    refine ⟨e, ?_⟩
    have : i ≠ 0 := fun z => by subst z; rw [h] at q; injection q with q; injection q with q; injection q with _ q; cases q
    rw [List.getElem?_set_ne this]; exact q
  refine ⟨a, h1, I'.push h2 h3 (fun p hp q => I.pdis p hp i d .o (by decide) h (q ▸ h1)) fun j e t ht q z => ?_⟩
  exact (old q).1 (I.uniq i j d e .o t a (by decide) ht h (old q).2 h1 z)
theorem de_mv {i : Nat} {x : Str} {pos : Pos} (h : PE X (.Name x pos) (tVar i)) : DE X G W (.Name x pos) (mMv i) := peImp h fun σ H Q ⟨g, env, S, P, I, q⟩ => by
  unfold mMv at q
  cases e : env[i]? with
  | none => rw [e] at q; exact q.elim
  | some r =>
    rw [e] at q
    cases r with
    | none => exact q.elim
    | some dt =>
      obtain ⟨d, t⟩ := dt
      cases t with
      | s =>
        obtain ⟨v, h1, h2⟩ := I.shr i d e
        exact ⟨v, h1, q v H S Grow.rfl' ⟨I, h2⟩⟩
      | o =>
        obtain ⟨a, h1, I'⟩ := I.moveVar e
        exact ⟨.ref a, h1, q _ H S Grow.rfl' ⟨a, rfl, I'⟩⟩
      | p => exact q.elim
end
end DL

set_option Elab.async false
set_option linter.all false
set_option maxRecDepth 100000
set_option maxHeartbeats 1000000
/-! DL8: targets, what is walked, for, comprehensions. -/
namespace DL
open PySem L2
/-! ### targets -/
inductive Tgt where
  | nm (i : Nat) | tp (ts : List Tgt)
mutual
def setTg : Tgt → D → EV → Option EV
  | .nm i, d, env => match freeE env i with | true => some (env.set i (some (d, .s))) | false => none
  | .tp ts, .tup ds, env => setTgs ts ds env
  | _, _, _ => none
def setTgs : List Tgt → List D → EV → Option EV
  | [], [], env => some env
  | t :: ts, d :: ds, env => match setTg t d env with
    | some e => setTgs ts ds e
    | none => none
  | _, _, _ => none
end
mutual
def slots : Tgt → List Nat
  | .nm i => [i]
  | .tp ts => slotsL ts
def slotsL : List Tgt → List Nat
  | [] => []
  | t :: ts => slots t ++ slotsL ts
end
/-- other slots stand -/
def Keeps (vs : List Nat) (σ σ' : St) : Prop := σ'.length = σ.length ∧ ∀ i, i ∉ vs → σ'[i]? = σ[i]?
def trG (G : Ctx) (t : Tgt) : TG := fun v σ H Q => ∃ g env S P d e', SI G g σ H env S P ∧ Rep G H S v d ∧ setTg t d env = some e' ∧ ∀ σ', Keeps (slots t) σ σ' → SI G g σ' H e' S P → Q σ' H
def trGs (G : Ctx) (ts : List Tgt) : TGs := fun vs σ H Q => ∃ g env S P ds e', SI G g σ H env S P ∧ RepL G H S vs ds ∧ setTgs ts ds env = some e' ∧ ∀ σ', Keeps (slotsL ts) σ σ' → SI G g σ' H e' S P → Q σ' H
abbrev DG (X : Cx) (G : Ctx) (tg : Expr) (t : Tgt) := PG X tg (trG G t)
abbrev DGs (X : Cx) (G : Ctx) (tg : List Expr) (t : List Tgt) := PGs X tg (trGs G t)
theorem setTgs_len : ∀ {ts : List Tgt} {ds : List D} {env e : EV}, setTgs ts ds env = some e → ts.length = ds.length
  | [], [], _, _, _ => rfl
  | [], _ :: _, _, _, h => by simp [setTgs] at h
  | _ :: _, [], _, _, h => by simp [setTgs] at h
  | t :: ts, d :: ds, env, e, h => by
    simp only [setTgs] at h
    cases q : setTg t d env with
    | none => simp [q] at h
    | some e1 => simp only [q] at h; simp [setTgs_len h]
section
variable {X : Cx} {G : Ctx} {W : WX} {g : Gh} {σ : St} {H H1 : Hp} {env env1 : EV} {S S1 : Sset} {P : List (Addr × D)} {Z : Ends} {v : V} {d : D} {o : Bool} {e : Expr} {m : ME} {pos : Pos}
theorem pgImp {e : Expr} {t t' : TG} (h : PG X e t) (i : ∀ v σ H Q, t' v σ H Q → t v σ H Q) : PG X e t' := ⟨fun pins s σ H v u Q I r q => h.run pins s σ H v u Q I r (i _ _ _ _ q)⟩
theorem pgsImp {e : List Expr} {t t' : TGs} (h : PGs X e t) (i : ∀ v σ H Q, t' v σ H Q → t v σ H Q) : PGs X e t' := ⟨fun pins s σ H v u Q I r q => h.run pins s σ H v u Q I r (i _ _ _ _ q)⟩
theorem piImp {tg e : Expr} {t t' : TI} (h : PI X tg e t) (i : ∀ σ H Q, t' σ H Q → t σ H Q) : PI X tg e t' := ⟨fun pins s σ H R I q => h.run pins s σ H R I (i _ _ _ q)⟩
theorem piOr {tg e : Expr} {t t' : TI} (h : PI X tg e t) (h' : PI X tg e t') : PI X tg e (fun σ H R => t σ H R ∨ t' σ H R) := ⟨fun pins s σ H R I q => q.elim (h.run pins s σ H R I) (h'.run pins s σ H R I)⟩
theorem dg_nm {i : Nat} {x : Str} (hN : X.N.Nodup) (hi : X.N[i]? = some x) (hx : Loc X.env.scope x) (hf : X.fn x = true ∨ X.env.scope.names.lookup x = some .local := by first | exact .inl rfl | exact .inr rfl | assumption) : DG X G (.Name x pos) (.nm i) :=
  pgImp (pg_name hN hi hx hf) fun v σ H Q ⟨g, env, S, P, d, e', I, r, h, k⟩ => by
    simp only [setTg] at h
    cases q : freeE env i with
    | false => simp [q] at h
    | true =>
      simp only [q] at h
      injection h with h
      subst h
      obtain ⟨r0, h1, h2⟩ := freeE_ok q
      refine k _ ⟨by rw [List.length_set], fun j hj => ?_⟩ (I.setS h1 h2 r)
      have : i ≠ j := fun z => hj (by rw [z]; simp [slots])
      exact List.getElem?_set_ne this
theorem dgs_nil : DGs X G [] [] := pgsImp pgs_nil fun v σ H Q ⟨g, env, S, P, ds, e', I, r, h, k⟩ => by
  cases r with
  | nil =>
    simp only [setTgs] at h
    cases h
    exact ⟨rfl, k σ ⟨rfl, fun _ _ => rfl⟩ I⟩
  | cons a b => simp [setTgs] at h
theorem dgs_cons {e : Expr} {es : List Expr} {t : Tgt} {ts : List Tgt} (h1 : DG X G e t) (h2 : DGs X G es ts) (hs : (assignEach (e :: es) X.env).map (·.2) = assign e X.env :: (assignEach es X.env).map (·.2) := by rfl) : DGs X G (e :: es) (t :: ts) :=
  pgsImp (pgs_cons h1 h2 hs) fun vs σ H Q ⟨g, env, S, P, ds, e', I, r, h, k⟩ => by
    cases r with
    | nil => simp [setTgs] at h
    | @cons v d vs ds r rs =>
      simp only [setTgs] at h
      cases q : setTg t d env with
      | none => simp [q] at h
      | some e1 =>
        simp only [q] at h
        refine ⟨v, vs, rfl, g, env, S, P, d, e1, I, r, q, fun σ1 k1 I1 => ⟨g, e1, S, P, ds, e', I1, rs, h, fun σ2 k2 I2 => k σ2 ⟨k2.1.trans k1.1, fun i hi => ?_⟩ I2⟩⟩
        have hi : i ∉ slots t ++ slotsL ts := by simpa [slotsL] using hi
        rw [k2.2 i fun z => hi (List.mem_append_right _ z), k1.2 i fun z => hi (List.mem_append_left _ z)]
theorem dg_tp {es : List Expr} {k : Nat} {ts : List Tgt} (hK : G.K = X.K) (hc : X.calm = true) (h : DGs X G es ts) (hn : (assignEach es X.env).length = ts.length := by rfl) (hst : (assignEach es X.env).findIdx? (·.1) = none := by rfl) : DG X G (.Tuple es k pos) (.tp ts) :=
  pgImp (pg_tup hc h hn hst) fun v σ H Q ⟨g, env, S, P, d, e', I, r, h, k⟩ => by
    cases d with
    | tup ds =>
      simp only [setTg] at h
      obtain ⟨a, vs, rfl, h1, _, h3⟩ := (Rep.b r).tup hK
      exact ⟨a, vs, rfl, h1, by rw [h3.length]; exact (setTgs_len h).symm, g, env, S, P, ds, e', I, h3, h, fun σ' k' I' => k σ' (by simpa [slots] using k') I'⟩
    | _ => simp [setTg] at h
/-- target = e, e a tuple (given away) -/
def mUn (t : Tgt) (m : ME) : MS := bindS m fun d o env => match setTg t d env with
  | some e => match o with
    | false => .nx e
    | true => .bad
  | none => .bad
theorem ds_un {tg : Expr} {t : Tgt} (he : DE X G W e m) (hg : DG X G tg t) (hs : swapsWithSole [tg] e pos.line X.env = pure false := by rfl) (hw : swappedStores [tg] e X.env = pure none := by rfl)
    (h1 : (assignEach [tg] X.env).map (·.2) = [assign tg X.env] := by rfl) : DS X G W (.Assign [tg] e pos) (mUn t m) :=
  psImp (ps_asg he hg hs hw h1) fun Z σ H ⟨g, env, S, I, h⟩ => bindS_ok I h fun d o env1 v H1 S1 gr hv h => by
    cases q : setTg t d env1 with
    | none => simp only [q] at h; exact h.elim
    | some e2 =>
      simp only [q] at h
      cases o with
      | true => exact h.elim
      | false => exact ⟨g, env1, S1, [], d, e2, hv.1, hv.2, q, fun σ' _ I' => h σ' H1 S1 Grow.rfl' I'⟩

/-! ### what is walked -/
inductive RI where
  | ok (ds : List D) (e : EV) | exc (c : Nat) (fs : List D) (e : EV) | bad
abbrev MI := EV → RI
def Yields (G : Ctx) (J : It) (H' : Hp) (S' : Sset) (ds : List D) : Prop := ∀ (i : Nat) (S2 : Sset) (H2 : Hp), Grow S' H' S2 H2 → (∀ a, S2 a → ∃ o, H2 a = some o) →
  (i < ds.length → J.go i H2 ∧ ∀ x H3, J.yld i H2 x H3 → ∃ d, ds[i]? = some d ∧ New G H2 S2 x H3 d false) ∧ (ds.length ≤ i → J.stop i H2)
def PostI (G : Ctx) (W : WX) (g : Gh) (σ : St) (H : Hp) (S : Sset) (P : List (Addr × D)) (R : It → Hp → Prop) : RI → Prop
  | .ok ds e => ∀ J H' S', Grow S H S' H' → SI G g σ H' e S' P → Yields G J H' S' ds → ds.length ≤ sizeLine → R J H'
  | .exc c fs e => ∀ cls dd H' S', Grow S H S' H' → SI G g σ H' e S' P → ExcRep G H' S' cls dd c fs → W cls dd σ H'
  | .bad => False
def trI (G : Ctx) (W : WX) (m : MI) : TI := fun σ H R => ∃ g env S P, SI G g σ H env S P ∧ PostI G W g σ H S P R (m env)
abbrev DI (X : Cx) (G : Ctx) (W : WX) (tg e : Expr) (m : MI) := PI X tg e (trI G W m)
theorem PostI.mono {R : It → Hp → Prop} {r : RI} (gr : Grow S H S1 H1) (h : PostI G W g σ H S P R r) : PostI G W g σ H1 S1 P R r := by
  cases r with
  | ok ds e => exact fun J H' S' g' q => h J H' S' (gr.trans g') q
  | exc c fs e => exact fun cls dd H' S' g' q r => h cls dd H' S' (gr.trans g') q r
  | bad => exact h
def sgnD (z : Str) : List D := z.cps.toList.map fun c => D.str ⟨#[c]⟩
def itemsD : D → Option (List D)
  | .lst ds => some ds
  | .tup ds => some ds
  | .str z => some (sgnD z)
  | .scr ns => some (ns.map D.int)
  | _ => none
def bindI (m : ME) (k : D → Option (List D)) : MI := fun env => match m env with
  | .ok d _ e => match k d with
    | some ds => .ok ds e
    | none => .bad
  | .exc c fs e => .exc c fs e
  | .bad => .bad
def mSq (m : ME) : MI := bindI m itemsD
theorem yields_list {a : Addr} {vs : List V} {ds : List D} (hs : S a) (hH : H a = some (.lst vs)) (r : RepL G H S vs ds) : Yields G (Itl G.K a) H S ds := fun i S2 H2 gr hS => by
  have h2 : H2 a = some (.lst vs) := ((gr a hs).2).trans hH
  have r2 := r.mono gr
  refine ⟨fun hi => ?_, fun hi => ⟨vs, SqL.of h2, by rw [r2.length]; exact hi⟩⟩
  obtain ⟨v, q1, q2⟩ := r2.get (i := i) (d := ds[i]) (by simp [hi])
  exact ⟨⟨vs, v, SqL.of h2, q1⟩, fun x H3 ⟨e, h3⟩ => by
    subst e
    have := h3 vs (SqL.of h2)
    rw [q1] at this; injection this with this; subst this
    exact ⟨ds[i], by simp [hi], New.same q2⟩⟩
theorem yields_tup {a : Addr} {ds : List D} (h : Rep G H S (.ref a) (.tup ds)) : Yields G (Itt G.K a) H S ds := fun i S2 H2 gr hS => by
  obtain ⟨b, vs, e, h1, _, r⟩ := (Rep.b (h.mono gr)).tup rfl
  cases e
  refine ⟨fun hi => ?_, fun hi => ⟨vs, h1, by rw [r.length]; exact hi⟩⟩
  obtain ⟨v, q1, q2⟩ := r.get (i := i) (d := ds[i]) (by simp [hi])
  exact ⟨⟨vs, v, h1, q1⟩, fun x H3 ⟨e, h3⟩ => by
    subst e
    have := h3 vs h1
    rw [q1] at this; injection this with this; subst this
    exact ⟨ds[i], by simp [hi], New.same q2⟩⟩
theorem yields_str {z : Str} (h : sOk z) : Yields G (Its z) H S (sgnD z) := fun i S2 H2 gr hS => by
  have hl : (sgnD z).length = z.cps.size := by simp [sgnD]
  refine ⟨fun hi => ⟨by rw [hl] at hi; exact hi, fun x H3 ⟨e, c, h1, h2⟩ => ?_⟩, fun hi => by rw [hl] at hi; exact hi⟩
  subst e; subst h2
  have hc : z.cps.toList[i]? = some c := by rw [Array.getElem?_toList]; exact h1
  exact ⟨_, by unfold sgnD; rw [List.getElem?_map, hc]; rfl, New.same (.str (sOk_one h (List.mem_of_getElem? hc)))⟩
theorem yields_scr {a : Addr} {ob : Obj} {ns : List Int} (hs : S a) (hH : H a = some (.frz ob (.lst (ns.map V.int)))) : Yields G (Itl G.K a) H S (ns.map D.int) := fun i S2 H2 gr hS => by
  have h2 : H2 a = some (.frz ob (.lst (ns.map V.int))) := ((gr a hs).2).trans hH
  have sq : SqL G.K H2 a (ns.map V.int) := .inl (.inr ⟨ob, h2⟩)
  refine ⟨fun hi => ?_, fun hi => ⟨_, sq, by simpa using hi⟩⟩
  have hi : i < ns.length := by simpa using hi
  have q1 : (ns.map V.int)[i]? = some (V.int ns[i]) := by simp [hi]
  exact ⟨⟨_, _, sq, q1⟩, fun x H3 ⟨e, h3⟩ => by
    subst e
    have := h3 _ sq
    rw [q1] at this; injection this with this; subst this
    exact ⟨.int ns[i], by simp [hi], New.same .int⟩⟩
theorem di_sq {tg : Expr} (hK : G.K = X.K) (hz : ∀ ns : List Int, True) (he : DE X G W e m) : DI X G W tg e (bindI m fun d => match d with | .scr _ => none | d => itemsD d) :=
  piImp (piOr (pi_list he) (piOr (pi_tup he) (pi_str he))) fun σ H R ⟨g, env, S, P, I, h⟩ => by
    unfold bindI at h
    cases q : m env with
    | bad => simp only [q] at h; exact h.elim
    | exc c fs e1 =>
      simp only [q] at h
      exact .inl ⟨g, env, S, P, I, by rw [q]; exact h⟩
    | ok d o e1 =>
      simp only [q] at h
      cases d with
      | lst ds =>
        refine .inl ⟨g, env, S, P, I, ?_⟩
        rw [q]
        intro v H1 S1 gr hv
        obtain ⟨S2, g2, I2, r2⟩ := hv.frz
        cases r2 with
        | lst hs hH hl r => exact ⟨_, rfl, ⟨_, SqL.of hH⟩, by rw [← hK]; exact h _ H1 S2 (gr.trans g2) I2 (yields_list hs hH r) (by rw [← r.length]; exact hl)⟩
      | tup ds =>
        refine .inr (.inl ⟨g, env, S, P, I, ?_⟩)
        rw [q]
        intro v H1 S1 gr hv
        obtain ⟨S2, g2, I2, r2⟩ := hv.frz
        obtain ⟨a, vs, rfl, h1, h2, r⟩ := (Rep.b r2).tup hK
        exact ⟨_, rfl, ⟨_, h1⟩, by rw [← hK]; exact h _ H1 S2 (gr.trans g2) I2 (yields_tup r2) (by rw [← r.length]; exact h2)⟩
      | str z =>
        refine .inr (.inr ⟨g, env, S, P, I, ?_⟩)
        rw [q]
        intro v H1 S1 gr hv
        obtain ⟨S2, g2, I2, r2⟩ := hv.frz
        obtain ⟨rfl, hz⟩ := (Rep.b r2).str
        exact ⟨_, rfl, h _ H1 S2 (gr.trans g2) I2 (yields_str hz) (by simp only [sgnD, List.length_map, Array.length_toList]; exact hz.1)⟩
      | _ => exact h.elim
/-- range(n), range(a, b) -/
def rngD (a b : Int) : List D := (List.range (b - a).toNat).map fun (k : Nat) => D.int (a + k)
def mRg1 (m : ME) : MI := bindI m fun d => match d with
  | .int j => match decide (-(2 ^ 62) ≤ j) && decide (j ≤ 16777216) with
    | true => some (rngD 0 j)
    | false => none
  | _ => none
theorem yields_rng {a : Int} {n : Nat} : Yields G (Itr a n) H S ((List.range n).map fun (k : Nat) => D.int (a + k)) := fun i S2 H2 gr hS => by
  refine ⟨fun hi => ⟨(by simpa using hi : i < n), fun x H3 ⟨e, h⟩ => ?_⟩, fun hi => (by simpa using hi : n ≤ i)⟩
  subst e; subst h
  have hi : i < n := by simpa using hi
  exact ⟨.int (a + i), by simp [hi], New.same .int⟩
theorem di_rg1 {tg a : Expr} {p : Pos} (hg : Gl X "range") (hm : X.mg "range" = none) (ha : DE X G W a m) (hs : starEach [a] X.env = [(false, eval a X.env)] := by rfl)
    (hs' : starEach (a :: []) X.env = (false, eval a X.env) :: starEach [] X.env := by rfl) : DI X G W tg (.Call (.Name "range" p) [a] [] pos) (mRg1 m) :=
  piImp (pi_range1 hg hm (pa_cons ha pa_nil hs') hs) fun σ H R ⟨g, env, S, P, I, h⟩ => by
    refine ⟨g, env, S, P, I, ?_⟩
    unfold mRg1 bindI at h
    cases q : m env with
    | bad => simp only [q] at h; exact h.elim
    | exc c fs e1 => simp only [q] at h; exact h
    | ok d o e1 =>
      simp only [q] at h
      intro v H1 S1 gr hv
      obtain ⟨S2, g2, I2, r2⟩ := hv.frz
      cases d with
      | int j =>
        cases r2
        cases c : decide (-(2 ^ 62) ≤ j) && decide (j ≤ 16777216) with
        | false => simp only [c] at h; exact h.elim
        | true =>
          simp only [c] at h
          obtain ⟨c1, c2⟩ := Bool.and_eq_true_iff.mp c
          have c1 := of_decide_eq_true c1
          have c2 := of_decide_eq_true c2
          refine ⟨j, rfl, c1, by omega, ?_⟩
          have e0 : rngD 0 j = (List.range j.toNat).map fun (k : Nat) => D.int (0 + k) := by unfold rngD; rw [Int.sub_zero]
          refine h _ H1 S2 (gr.trans g2) I2 (by rw [e0]; exact yields_rng) ?_
          rw [e0, sizeLine_eq]; simp; omega
      | _ => exact h.elim
def mRg2 (m1 m2 : ME) : MI := fun env => match evL [m1, m2] env with
  | .ok ds e => match ds with
    | [.int i, .int j] => match decide (-(2 ^ 62) ≤ i) && (decide (i < 2 ^ 62) && (decide (-(2 ^ 62) ≤ j) && (decide (j < 2 ^ 62) && decide (j - i ≤ 16777216)))) with
      | true => .ok (rngD i j) e
      | false => .bad
    | _ => .bad
  | .exc c fs e => .exc c fs e
  | .bad => .bad
theorem di_rg2 {tg a b : Expr} {m1 m2 : ME} {p : Pos} (hg : Gl X "range") (hm : X.mg "range" = none) (ha : DA X G W [a, b] [m1, m2]) (hs : starEach [a, b] X.env = [(false, eval a X.env), (false, eval b X.env)] := by rfl) (hs2 : starEach [b] X.env = [(false, eval b X.env)] := by rfl) :
    DI X G W tg (.Call (.Name "range" p) [a, b] [] pos) (mRg2 m1 m2) :=
  piImp (pi_range2 hg hm ha hs hs2) fun σ H R ⟨g, env, S, P, I, h⟩ => by
    refine ⟨g, env, S, P, I, ?_⟩
    unfold mRg2 at h
    cases q : evL [m1, m2] env with
    | bad => simp only [q] at h; exact h.elim
    | exc c fs e1 => simp only [q] at h; exact h
    | ok ds e1 =>
      simp only [q] at h
      intro vs H1 S1 gr I1 r l
      split at h
      · rename_i i j
        cases r with
        | cons r1 r =>
          cases r with
          | cons r2 r =>
            cases r; cases r1; cases r2
            split at h
            · rename_i c
              simp only [Bool.and_eq_true, decide_eq_true_eq] at c
              refine ⟨i, j, rfl, ⟨c.1, c.2.1, c.2.2.1, c.2.2.2.1⟩, h _ H1 S1 gr I1 yields_rng ?_⟩
              unfold rngD
              rw [sizeLine_eq]; simp; omega
            · exact h.elim
      · exact h.elim
/-- zip(x, y) of two lists or two tuples; enumerate of a list -/
def zipD (xs ys : List D) : List D := (xs.zip ys).map fun p => D.tup [p.1, p.2]
def enumD (xs : List D) : List D := xs.zipIdx.map fun p => D.tup [.int p.2, p.1]
def mZip (m1 m2 : ME) : MI := fun env => match evL [m1, m2] env with
  | .ok ds e => match ds with
    | [.lst xs, .lst ys] => .ok (zipD xs ys) e
    | [.tup xs, .tup ys] => .ok (zipD xs ys) e
    | _ => .bad
  | .exc c fs e => .exc c fs e
  | .bad => .bad
theorem zipD_len {xs ys : List D} : (zipD xs ys).length = min xs.length ys.length := by simp [zipD]
theorem zipD_get {xs ys : List D} {i : Nat} {a b : D} (h1 : xs[i]? = some a) (h2 : ys[i]? = some b) : (zipD xs ys)[i]? = some (.tup [a, b]) := by
  unfold zipD
  rw [List.getElem?_map]
  have : (xs.zip ys)[i]? = some (a, b) := by
    rw [List.getElem?_zip_eq_some]; exact ⟨h1, h2⟩
  rw [this]; rfl
theorem yields_zip {a b : Addr} {vs ws : List V} {xs ys : List D} (hs : S a) (hH : H a = some (.lst vs)) (r : RepL G H S vs xs) (hs' : S b) (hH' : H b = some (.lst ws)) (r' : RepL G H S ws ys) : Yields G (Itz G.K a b) H S (zipD xs ys) := fun i S2 H2 gr hS => by
  have h2 : H2 a = some (.lst vs) := ((gr a hs).2).trans hH
  have h2' : H2 b = some (.lst ws) := ((gr b hs').2).trans hH'
  have r2 := r.mono gr
  have r2' := r'.mono gr
  refine ⟨fun hi => ?_, fun hi => ⟨vs, ws, SqL.of h2, SqL.of h2', ?_⟩⟩
  · rw [zipD_len] at hi
    have i1 : i < xs.length := by omega
    have i2 : i < ys.length := by omega
    obtain ⟨v, q1, q2⟩ := r2.get (i := i) (d := xs[i]) (by simp [i1])
    obtain ⟨w, q1', q2'⟩ := r2'.get (i := i) (d := ys[i]) (by simp [i2])
    refine ⟨⟨vs, ws, v, w, SqL.of h2, SqL.of h2', q1, q1'⟩, fun x H3 ⟨T, x1, y1, e1, e2, e3, k1, k2⟩ => ?_⟩
    have k1 := k1 vs (SqL.of h2)
    have k2 := k2 ws (SqL.of h2')
    rw [q1] at k1; injection k1 with k1; subst k1
    rw [q1'] at k2; injection k2 with k2; subst k2
    subst e1; subst e3
    exact ⟨_, zipD_get (by simp [i1]) (by simp [i2]), New.tup hS e2 (.cons q2 (.cons q2' .nil)) (by show 2 ≤ sizeLine; decide)⟩
  · rw [zipD_len] at hi
    have := r2.length
    have := r2'.length
    omega
theorem yields_zipT {a b : Addr} {xs ys : List D} (h : Rep G H S (.ref a) (.tup xs)) (h' : Rep G H S (.ref b) (.tup ys)) : Yields G (RZ.ItzT G.K a b) H S (zipD xs ys) := fun i S2 H2 gr hS => by
  obtain ⟨_, vs, e, h2, _, r2⟩ := (Rep.b (h.mono gr)).tup rfl
  cases e
  obtain ⟨_, ws, e, h2', _, r2'⟩ := (Rep.b (h'.mono gr)).tup rfl
  cases e
  refine ⟨fun hi => ?_, fun hi => ⟨vs, ws, h2, h2', ?_⟩⟩
  · rw [zipD_len] at hi
    have i1 : i < xs.length := by omega
    have i2 : i < ys.length := by omega
    obtain ⟨v, q1, q2⟩ := r2.get (i := i) (d := xs[i]) (by simp [i1])
    obtain ⟨w, q1', q2'⟩ := r2'.get (i := i) (d := ys[i]) (by simp [i2])
    refine ⟨⟨vs, ws, v, w, h2, h2', q1, q1'⟩, fun x H3 ⟨T, x1, y1, e1, e2, e3, k1, k2⟩ => ?_⟩
    have k1 := k1 vs h2
    have k2 := k2 ws h2'
    rw [q1] at k1; injection k1 with k1; subst k1
    rw [q1'] at k2; injection k2 with k2; subst k2
    subst e1; subst e3
    exact ⟨_, zipD_get (by simp [i1]) (by simp [i2]), New.tup hS e2 (.cons q2 (.cons q2' .nil)) (by show 2 ≤ sizeLine; decide)⟩
  · rw [zipD_len] at hi
    have := r2.length
    have := r2'.length
    omega
theorem di_zip {e2 : Expr} {m2 : ME} {p tpos : Pos} {elts : List Expr} {kk : Nat} (hK : G.K = X.K) (hg : Gl X "zip") (hm : X.mg "zip" = none) (ha : DA X G W [e, e2] [m, m2])
    (hs : starEach [e, e2] X.env = (false, eval e X.env) :: starEach [e2] X.env := by rfl) (hpl : (backTo pos (starEach [e2] X.env)).any (·.1) = false := by rfl) :
    DI X G W (.Tuple elts kk tpos) (.Call (.Name "zip" p) [e, e2] [] pos) (mZip m m2) :=
  piImp (RZ.pi_zipA hg hm ha hs hpl) fun σ H R ⟨g, env, S, P, I, h⟩ => by
    refine ⟨g, env, S, P, I, ?_⟩
    unfold mZip at h
    cases q : evL [m, m2] env with
    | bad => simp only [q] at h; exact h.elim
    | exc c fs e1 => simp only [q] at h; exact h
    | ok ds e1 =>
      simp only [q] at h
      intro vs H1 S1 gr I1 r l
      split at h
      · cases r with
        | cons r1 r =>
          cases r with
          | cons r2 r =>
            cases r
            cases r1 with
            | lst hs hH hl r1 =>
              cases r2 with
              | lst hs' hH' hl' r2 =>
                refine ⟨_, _, _, _, rfl, .inl ⟨SqL.of hH, SqL.of hH', ?_⟩⟩
                rw [← hK]
                exact h _ H1 S1 gr I1 (yields_zip hs hH r1 hs' hH' r2) (by rw [zipD_len, ← r1.length]; omega)
      · cases r with
        | cons r1 r =>
          cases r with
          | cons r2 r =>
            cases r
            obtain ⟨a, ws, rfl, h1, h2, h3⟩ := (Rep.b r1).tup hK
            obtain ⟨b, ws', rfl, h1', h2', h3'⟩ := (Rep.b r2).tup hK
            refine ⟨_, _, _, _, rfl, .inr ⟨h1, h1', ?_⟩⟩
            rw [← hK]
            exact h _ H1 S1 gr I1 (yields_zipT r1 r2) (by rw [zipD_len, ← h3.length]; omega)
      · exact h.elim
def mEnum (m : ME) : MI := bindI m fun d => match d with
  | .lst xs => some (enumD xs)
  | _ => none
theorem di_enum {p tpos : Pos} {elts : List Expr} {kk : Nat} (hK : G.K = X.K) (hg : Gl X "enumerate") (hm : X.mg "enumerate" = none) (ha : DE X G W e m) (hs : starEach [e] X.env = [(false, eval e X.env)] := by rfl)
    (hs' : starEach (e :: []) X.env = (false, eval e X.env) :: starEach [] X.env := by rfl) : DI X G W (.Tuple elts kk tpos) (.Call (.Name "enumerate" p) [e] [] pos) (mEnum m) :=
  piImp (pi_enum hg hm (pa_cons ha pa_nil hs') hs) fun σ H R ⟨g, env, S, P, I, h⟩ => by
    refine ⟨g, env, S, P, I, ?_⟩
    unfold mEnum bindI at h
    cases q : m env with
    | bad => simp only [q] at h; exact h.elim
    | exc c fs e1 => simp only [q] at h; exact h
    | ok d o e1 =>
      simp only [q] at h
      intro v H1 S1 gr hv
      obtain ⟨S2, g2, I2, r2⟩ := hv.frz
      cases d with
      | lst xs =>
        cases r2 with
        | lst hs hH hl r =>
          rename_i a vs
          refine ⟨_, _, rfl, SqL.of hH, ?_⟩
          rw [← hK]
          refine h _ H1 S2 (gr.trans g2) I2 (fun i S3 H3 gr3 hS3 => ?_) (by simp only [enumD, List.length_map, List.length_zipIdx]; rw [← r.length]; exact hl)
          have h3 : H3 a = some (.lst vs) := ((gr3 a hs).2).trans hH
          have r3 := r.mono gr3
          refine ⟨fun hi => ?_, fun hi => ⟨vs, SqL.of h3, by rw [r3.length]; simpa [enumD] using hi⟩⟩
          have i1 : i < xs.length := by simpa [enumD] using hi
          obtain ⟨w, q1, q2⟩ := r3.get (i := i) (d := xs[i]) (by simp [i1])
          refine ⟨⟨vs, w, SqL.of h3, q1⟩, fun x H4 ⟨T, x1, e1, e2, e3, k1⟩ => ?_⟩
          have k1 := k1 vs (SqL.of h3)
          rw [q1] at k1; injection k1 with k1; subst k1
          subst e1; subst e3
          exact ⟨.tup [.int i, xs[i]], by simp [enumD, i1], New.tup hS3 e2 (.cons .int (.cons q2 .nil)) (by show 2 ≤ sizeLine; decide)⟩
      | _ => exact h.elim

/-! ### for -/
def forE (t : Tgt) (body : MS) : List D → MS
  | [], env => .nx env
  | d :: r, env => match setTg t d env with
    | none => .bad
    | some e => match body e with
      | .nx e' => forE t body r e'
      | .ct e' => forE t body r e'
      | .bk e' => .nx e'
      | .rt d o e' => .rt d o e'
      | .exc c fs e' => .exc c fs e'
      | .bad => .bad
def mFor (t : Tgt) (mi : MI) (body : MS) : MS := fun env => match mi env with
  | .ok ds e => forE t body ds e
  | .exc c fs e => .exc c fs e
  | .bad => .bad
theorem ds_for {tg iter : Expr} {body : List Stmt} {t : Tgt} {mi : MI} {mb : MS} (hp : PassesOwn (model X.prog X.w) X.A X.env X.xe) (hc : X.calm = true) (hi : DI X G W tg iter mi) (hg : DG X G tg t) (hb : DSs X G W body mb)
    (hs : ∀ x, foldedSetIterable iter X.env x = pure x := by intro _; rfl) : DS X G W (.For tg iter body [] pos) (mFor t mi mb) :=
  psImp (ps_for hp hc hi hg hb hs) fun Z σ H ⟨g, env, S, I, h⟩ => by
    refine ⟨g, env, S, [], I, ?_⟩
    unfold mFor at h
    cases q : mi env with
    | bad => simp only [q] at h; exact h.elim
    | exc c fs e => simp only [q] at h; exact fun cls dd H' S' gr I' r => h cls dd σ H' S' gr I' r
    | ok ds e =>
      simp only [q] at h
      intro J H1 S1 gr I1 hy _
      refine ⟨fun i m σ' H' => m = ds.length - i ∧ i ≤ ds.length ∧ ∃ env' S', Grow S1 H1 S' H' ∧ SI G g σ' H' env' S' [] ∧ PostS G W g H' S' Z (forE t mb (ds.drop i) env'), ⟨ds.length, by simp, Nat.zero_le _, e, S1, Grow.rfl', I1, h.mono gr⟩, ?_⟩
      rintro i m σ' H' ⟨rfl, hi, env', S', gr', I', h'⟩
      obtain ⟨hgo, hst⟩ := hy i S' H' gr' I'.shH
      by_cases hlt : i < ds.length
      · obtain ⟨go, yl⟩ := hgo hlt
        refine .inr ⟨go, fun σ2 H2 => i + 1 ≤ ds.length ∧ ∃ env2 S2, Grow S1 H1 S2 H2 ∧ SI G g σ2 H2 env2 S2 [] ∧ PostS G W g H2 S2 Z (forE t mb (ds.drop (i + 1)) env2), fun σ2 H2 ⟨l, k⟩ => ⟨ds.length - (i + 1), by omega, rfl, l, k⟩, fun x H3 hx => ?_⟩
        obtain ⟨d, hd, n⟩ := yl x H3 hx
        have ed : ds.drop i = d :: ds.drop (i + 1) := by
          rw [List.drop_eq_getElem_cons hlt]
          have : ds[i] = d := by rw [List.getElem?_eq_getElem hlt] at hd; injection hd
          rw [this]
        rw [ed] at h'
        simp only [forE] at h'
        obtain ⟨S3, g3, hv⟩ := n.val I'
        obtain ⟨I3, r3⟩ := hv
        have h3 := PostS.mono g3 h'
        cases q2 : setTg t d env' with
        | none => simp only [q2] at h3; exact h3.elim
        | some e2 =>
          simp only [q2] at h3
          refine ⟨g, env', S3, [], d, e2, I3, r3, q2, fun σ4 _ I4 => ⟨g, e2, S3, I4, ?_⟩⟩
          cases q3 : mb e2 with
          | nx e3 => simp only [q3] at h3; exact fun σ5 H5 S5 g5 I5 => ⟨hlt, e3, S5, gr'.trans (g3.trans g5), I5, h3.mono g5⟩
          | ct e3 => simp only [q3] at h3; exact fun σ5 H5 S5 g5 I5 => ⟨hlt, e3, S5, gr'.trans (g3.trans g5), I5, h3.mono g5⟩
          | bk e3 => simp only [q3] at h3; exact fun σ5 H5 S5 g5 I5 => h3 σ5 H5 S5 g5 I5
          | rt d o e3 => simp only [q3] at h3; exact h3
          | exc c fs e3 => simp only [q3] at h3; exact h3
          | bad => simp only [q3] at h3; exact h3
      · have e0 : ds.drop i = [] := List.drop_eq_nil_of_le (by omega)
        rw [e0] at h'
        exact .inl ⟨hst (by omega), h' σ' H' S' Grow.rfl' I'⟩
/-! ### while: n turns at most -/
def whE (t : MT) (body : MS) : Nat → MS
  | 0, _ => .bad
  | n + 1, env => match t env with
    | .ok true e => match body e with
      | .nx e' => whE t body n e'
      | .ct e' => whE t body n e'
      | .bk e' => .nx e'
      | .rt d o e' => .rt d o e'
      | .exc c fs e' => .exc c fs e'
      | .bad => .bad
    | .ok false e => .nx e
    | .exc c fs e => .exc c fs e
    | .bad => .bad
theorem ds_while {c : Expr} {body : List Stmt} {mc : MT} {mb : MS} (n : Nat) (hp : PassesOwn (model X.prog X.w) X.A X.env X.xe) (hc : DT X G W c mc) (hb : DSs X G W body mb) : DS X G W (.While c body [] pos) (whE mc mb n) :=
  psImp (ps_while hp hc hb) fun Z σ H ⟨g, env, S, I, h⟩ => by
    refine ⟨fun m σ' H' => ∃ env' S', SI G g σ' H' env' S' [] ∧ PostS G W g H' S' Z (whE mc mb m env'), ⟨n, env, S, I, h⟩, ?_⟩
    rintro m σ' H' ⟨env', S', I', h'⟩
    cases m with
    | zero => exact h'.elim
    | succ m =>
      simp only [whE] at h'
      refine ⟨g, env', S', [], I', ?_⟩
      cases q : mc env' with
      | bad => simp only [q] at h'; exact h'.elim
      | exc c fs e => simp only [q] at h'; exact fun cls dd H' S' gr I' r => h' cls dd σ' H' S' gr I' r
      | ok b e =>
        intro H2 S2 g2 I2
        cases b with
        | false => simp only [q] at h'; exact iteF (h' σ' H2 S2 g2 I2)
        | true =>
          simp only [q] at h'
          have h2 := PostS.mono g2 h'
          refine iteT ⟨fun σ3 H3 => ∃ env3 S3, SI G g σ3 H3 env3 S3 [] ∧ PostS G W g H3 S3 Z (whE mc mb m env3), fun σ3 H3 k => ⟨m, Nat.lt_succ_self m, k⟩, ⟨g, e, S2, I2, ?_⟩⟩
          cases q3 : mb e with
          | nx e3 => simp only [q3] at h2; exact fun σ5 H5 S5 g5 I5 => ⟨e3, S5, I5, h2.mono g5⟩
          | ct e3 => simp only [q3] at h2; exact fun σ5 H5 S5 g5 I5 => ⟨e3, S5, I5, h2.mono g5⟩
          | bk e3 => simp only [q3] at h2; exact fun σ5 H5 S5 g5 I5 => h2 σ5 H5 S5 g5 I5
          | rt d o e3 => simp only [q3] at h2; exact h2
          | exc c fs e3 => simp only [q3] at h2; exact h2
          | bad => simp only [q3] at h2; exact h2
end
end DL

set_option Elab.async false
set_option linter.all false
set_option maxRecDepth 100000
set_option maxHeartbeats 1000000
/-! DL9: list comprehensions. -/
namespace DL
open PySem L2
abbrev W0 : WX := fun _ _ _ _ => False
def lcE (t : Tgt) (vs : List Nat) (tt : MT) (me : ME) : List D → List D → EV → RE
  | [], acc, env => .ok (.lst acc) true (wipeE env vs)
  | d :: r, acc, env => match setTg t d (wipeE env vs) with
    | none => .bad
    | some e => match tt e with
      | .ok true e1 => match me e1 with
        | .ok d' _ e2 => lcE t vs tt me r (acc ++ [d']) e2
        | _ => .bad
      | .ok false e1 => lcE t vs tt me r acc e1
      | _ => .bad
def mLc (t : Tgt) (vs : List Nat) (mi : MI) (tt : MT) (me : ME) : ME := fun env => match decide (0 ∉ vs) with
  | true => match mi env with
    | .ok ds e => lcE t vs tt me ds [] e
    | .exc c fs e => .exc c fs e
    | .bad => .bad
  | false => .bad
def mYes : MT := fun e => .ok true e
section
variable {X : Cx} {G : Ctx} {W : WX} {g : Gh} {σ : St} {H H1 H' : Hp} {env env1 : EV} {S S1 : Sset} {P : List (Addr × D)} {Q : VK} {v : V} {d d' : D} {o : Bool} {e : Expr} {m : ME} {pos : Pos} {a : Addr}
theorem SI.writeP {u : HO} (I : SI G g σ H env S ((a, d) :: P)) (hat : At G (L2.upd H a u) S a d') : SI G g σ (L2.upd H a u) env S ((a, d') :: P) := by
  have h2 := I.pend (a, d) List.mem_cons_self
  have nd : a ∉ P.map (·.1) := (List.nodup_cons.mp (by have := I.pun; rwa [List.map_cons] at this)).1
  have gr : Grow S H S (L2.upd H a u) := fun b hb => ⟨hb, upd_ne (show b ≠ a from fun e => h2.1.1 (e ▸ hb))⟩
  have ow : ∀ {b : Addr} {e : D}, b ≠ a → Own G H S b e → Own G (L2.upd H a u) S b e := fun {b e} hb q => ⟨q.1, q.2.mono gr (upd_ne hb)⟩
  have base : SI G g σ (L2.upd H a u) env S P := by
    refine ⟨I.len, fun i e q => ?_, fun i e t ht q => ?_, I.uniq, I.pin, I.pin0, fun p hp => ⟨ow (fun z => nd (z ▸ List.mem_map_of_mem hp)) (I.pop.pend p hp).1, (I.pop.pend p hp).2⟩, I.pop.pun, I.pop.pdis, fun b w q1 q2 => ?_, I.sh0, I.sh1, fun b hb => ?_, tabs_upd I.tab h2.1.2.nt h2.1.2.ne_ext, fun b hb ps z => ?_⟩
    · obtain ⟨v, q1, q2⟩ := I.shr i e q
      exact ⟨v, q1, q2.mono gr⟩
    · obtain ⟨b, q1, q2, q3⟩ := I.own i e t ht q
      exact ⟨b, q1, ow (fun z => I.pdis (a, d) List.mem_cons_self i e t ht q (z ▸ q1)) q2, q3⟩
    · have nb : b ≠ a := fun z => by
        subst z
        rcases h2.2 with h3 | h3
        · rw [h3] at q1; cases q1
        · exact q2 h3
      rcases I.fr b w q1 q2 with k | ⟨k1, ps, k⟩
      · exact .inl (by rw [upd_ne nb]; exact k)
      · exact .inr ⟨k1, ps, by rw [upd_ne nb]; exact k⟩
    · obtain ⟨w, hw⟩ := I.shH b hb
      exact ⟨w, by rw [upd_ne (show b ≠ a from fun e => h2.1.1 (e ▸ hb))]; exact hw⟩
    · rw [upd_ne (show b ≠ a from fun e => h2.1.1 (e ▸ hb))] at z
      exact I.nt b hb ps z
  exact base.push ⟨h2.1.1, hat⟩ h2.2 (fun p hp q => nd (q ▸ List.mem_map_of_mem hp)) (I.pdis (a, d) List.mem_cons_self)
theorem keeps_wipe {t : Tgt} {vs : List Nat} {σ2 : St} (hs : ∀ i ∈ slots t, i ∈ vs) (k : Keeps (slots t) (wipe σ vs) σ2) : wipe σ2 vs = wipe σ vs := by
  have hl : σ2.length = σ.length := by rw [k.1, wipe_length]
  refine List.ext_getElem? fun i => ?_
  by_cases hi : i ∈ vs
  · have z : ∀ (τ : St), τ.length = σ.length → i < σ.length → (wipe τ vs)[i]? = some none := by
      intro τ hτ hlt
      have : ∀ ws : List Nat, i ∈ ws → (wipe τ ws)[i]? = some none := by
        intro ws
        induction ws with
        | nil => intro h; cases h
        | cons w ws ih =>
          intro h
          unfold wipe
          by_cases e : w = i
          · subst e; rw [List.getElem?_set_self (by rw [wipe_length, hτ]; exact hlt)]
          · rw [List.getElem?_set_ne e]
            exact ih ((List.mem_cons.mp h).resolve_left fun q => e q.symm)
      exact this vs hi
    by_cases hlt : i < σ.length
    · rw [z σ2 hl hlt, z σ rfl hlt]
    · rw [List.getElem?_eq_none (by rw [wipe_length, hl]; omega), List.getElem?_eq_none (by rw [wipe_length]; omega)]
  · rw [wipe_out hi, k.2 i fun z => hi (hs i z), wipe_out hi]
theorem tLc_ok {t : Tgt} {vs : List Nat} {mi : MI} {tt : MT} {me : ME} (hs : ∀ i ∈ slots t, i ∈ vs) (h : trE G W (mLc t vs mi tt me) σ H Q) : tLc (trI G W mi) (trG G t) (trT G W0 tt) (trE G W0 me) vs σ H Q := by
  obtain ⟨g, env, S, P, I, h⟩ := h
  refine ⟨g, env, S, P, I, ?_⟩
  unfold mLc at h
  cases q0 : decide (0 ∉ vs) with
  | false => simp only [q0] at h; exact h.elim
  | true =>
    have h0 : 0 ∉ vs := of_decide_eq_true q0
    simp only [q0] at h
    cases q : mi env with
    | bad => simp only [q] at h; exact h.elim
    | exc c fs e => simp only [q] at h; exact h
    | ok ds e =>
      simp only [q] at h
      intro J H1 S1 gr I1 hy hz a ha
      have Ib : SI G g (wipe σ vs) H1 (wipeE e vs) S1 P := I1.rew (wipe_length σ vs) h0 fun i hi => wipe_out hi
      have Ia := Ib.extOwn (N := Nul) (H' := L2.upd H1 a (.lst [])) (a := a) (d := .lst []) (Ext.upd ha) (fun _ h => h.elim) ha id ⟨[], upd_same, by show 0 ≤ sizeLine; decide, .nil⟩
      rw [or1_nul] at Ia
      have g1 : Grow S1 H1 S1 (L2.upd H1 a (.lst [])) := grow_upd I1.shH ha
      have wipe2 : ∀ (E : EV), wipeE (wipeE E vs) vs = wipeE E vs := fun E => by
        refine List.ext_getElem? fun i => ?_
        by_cases hi : i ∈ vs
        · have z : ∀ (τ : EV) (ws : List Nat), i ∈ ws → (wipeE τ ws)[i]? = none ∨ (wipeE τ ws)[i]? = some none := by
            intro τ ws h
            cases hq : (wipeE τ ws)[i]? with
            | none => exact .inl rfl
            | some r =>
              cases r with
              | none => exact .inr rfl
              | some x => exact absurd h (wipeE_some hq).2
          have l1 : (wipeE (wipeE E vs) vs).length = (wipeE E vs).length := wipeE_length _ _
          rcases z (wipeE E vs) vs hi with z1 | z1 <;> rcases z E vs hi with z2 | z2 <;> rw [z1, z2]
          · have := List.getElem?_eq_none_iff.mp z1
            have : (wipeE E vs)[i]? = none := List.getElem?_eq_none (by omega)
            rw [this] at z2; cases z2
          · have := List.getElem?_eq_none_iff.mp z2
            have : (wipeE (wipeE E vs) vs)[i]? = none := List.getElem?_eq_none (by omega)
            rw [this] at z1; cases z1
        · rw [wipeE_out hi]
      have hw : ∀ (acc : List D), lcE t vs tt me ds acc (wipeE e vs) = lcE t vs tt me ds acc e := fun acc => by
        cases ds with
        | nil => simp only [lcE]; rw [wipe2]
        | cons d r => simp only [lcE]; rw [wipe2]
      refine ⟨fun i m H' => m = ds.length - i ∧ i ≤ ds.length ∧ ∃ env' S' acc, Grow S1 H1 S' H' ∧ SI G g (wipe σ vs) H' env' S' ((a, .lst acc) :: P) ∧ acc.length ≤ i ∧ PostE G W g σ H' S' P Q (lcE t vs tt me (ds.drop i) acc env'), ⟨ds.length, by simp, Nat.zero_le _, wipeE e vs, S1, [], g1, Ia, Nat.le_refl _, by rw [List.drop_zero, hw]; exact h.mono (gr.trans g1)⟩, ?_⟩
      rintro i m H' ⟨rfl, hi, env', S', acc, gr', I', hac, h'⟩
      obtain ⟨hgo, hst⟩ := hy i S' H' gr' I'.shH
      by_cases hlt : i < ds.length
      · obtain ⟨go, yl⟩ := hgo hlt
        refine .inr ⟨go, fun H2 => i + 1 ≤ ds.length ∧ ∃ env2 S2 acc2, Grow S1 H1 S2 H2 ∧ SI G g (wipe σ vs) H2 env2 S2 ((a, .lst acc2) :: P) ∧ acc2.length ≤ i + 1 ∧ PostE G W g σ H2 S2 P Q (lcE t vs tt me (ds.drop (i + 1)) acc2 env2), fun H2 ⟨l, k⟩ => ⟨ds.length - (i + 1), by omega, rfl, l, k⟩, fun x H3 hx => ?_⟩
        obtain ⟨d, hd, n⟩ := yl x H3 hx
        have ed : ds.drop i = d :: ds.drop (i + 1) := by
          rw [List.drop_eq_getElem_cons hlt]
          have : ds[i] = d := by rw [List.getElem?_eq_getElem hlt] at hd; injection hd
          rw [this]
        rw [ed] at h'
        simp only [lcE] at h'
        obtain ⟨S3, g3, hv⟩ := n.val I'
        obtain ⟨I3, r3⟩ := hv
        have h3 := PostE.mono g3 h'
        have I3' : SI G g (wipe σ vs) H3 (wipeE env' vs) S3 ((a, .lst acc) :: P) := I3.rew rfl h0 fun _ _ => rfl
        cases q2 : setTg t d (wipeE env' vs) with
        | none => simp only [q2] at h3; exact h3.elim
        | some e2 =>
          simp only [q2] at h3
          refine ⟨g, wipeE env' vs, S3, (a, .lst acc) :: P, d, e2, I3', r3, q2, fun σ4 k4 I4 => ⟨keeps_wipe hs k4, g, e2, S3, (a, .lst acc) :: P, I4, ?_⟩⟩
          have back : ∀ {H5 : Hp} {E : EV} {S5 : Sset} {P5 : List (Addr × D)}, SI G g σ4 H5 E S5 P5 → SI G g (wipe σ vs) H5 (wipeE E vs) S5 P5 := fun I5 => I5.rew (by rw [k4.1]) h0 fun i hi => by
            rw [k4.2 i fun z => hi (hs i z)]
          have lw : ∀ (r : List D) (ac : List D) (E : EV), lcE t vs tt me r ac (wipeE E vs) = lcE t vs tt me r ac E := fun r ac E => by
            cases r with
            | nil => simp only [lcE]; rw [wipe2]
            | cons d r => simp only [lcE]; rw [wipe2]
          cases q3 : tt e2 with
          | bad => simp only [q3] at h3; exact h3.elim
          | exc c fs e3 => simp only [q3] at h3; exact h3.elim
          | ok b e3 =>
            intro H5 S5 g5 I5
            have h5 := PostE.mono g5 h3
            cases b with
            | false =>
              simp only [q3] at h5
              exact iteF ⟨hlt, wipeE e3 vs, S5, acc, gr'.trans (g3.trans g5), back I5, by omega, by rw [lw]; exact h5⟩
            | true =>
              simp only [q3] at h5
              refine iteT ⟨g, e3, S5, (a, .lst acc) :: P, I5, ?_⟩
              cases q4 : me e3 with
              | bad => simp only [q4] at h5; exact h5.elim
              | exc c fs e4 => simp only [q4] at h5; exact h5.elim
              | ok d4 o4 e4 =>
                simp only [q4] at h5
                intro y H6 S6 g6 hv6
                obtain ⟨S7, g7, I7, r7⟩ := hv6.frz
                obtain ⟨ws, w1, w2, w3⟩ := (I7.pend (a, .lst acc) List.mem_cons_self).1.2
                have hlt' : ws.length < sizeLine := by have := w3.length; omega
                have nS : ¬ S7 a := (I7.pend (a, .lst acc) List.mem_cons_self).1.1
                have g8 : Grow S7 H6 S7 (L2.upd H6 a (.lst (ws ++ [y]))) := fun b hb => ⟨hb, upd_ne (show b ≠ a from fun z => nS (z ▸ hb))⟩
                have I8 := I7.writeP (u := .lst (ws ++ [y])) (d' := .lst (acc ++ [d4])) ⟨_, upd_same, by rw [List.length_append]; exact hlt', (w3.append (.cons r7 .nil)).mono g8⟩
                refine ⟨ws, w1, hlt', hlt, wipeE e4 vs, S7, acc ++ [d4], gr'.trans (g3.trans (g5.trans (g6.trans (g7.trans g8)))), back I8, by simp; omega, ?_⟩
                rw [lw]
                exact h5.mono (g6.trans (g7.trans g8))
      · have e0 : ds.drop i = [] := List.drop_eq_nil_of_le (by omega)
        rw [e0] at h'
        simp only [lcE] at h'
        exact .inl ⟨hst (by omega), h' (.ref a) H' S' Grow.rfl' ⟨a, rfl, I'.rew (by rw [wipe_length]) h0 fun i hi => (wipe_out hi).symm⟩⟩
/-- the tests of a comprehension -/
abbrev DTs (X : Cx) (G : Ctx) (W : WX) (ifs : List Expr) (m : MT) := PTs X ifs (trT G W m)
theorem ptsImp {e : List Expr} {t t' : TT} (h : PTs X e t) (i : ∀ σ H Q, t' σ H Q → t σ H Q) : PTs X e t' := ⟨fun pins s σ H Q I q => h.run pins s σ H Q I (i _ _ _ q)⟩
theorem dts_nil : DTs X G W [] mYes := ptsImp pts_nil fun σ H Q ⟨g, env, S, P, I, h⟩ => h H S Grow.rfl' I
theorem dts_one {c : Expr} {mc : MT} (h : DT X G W c mc) : DTs X G W [c] mc := pts_one h
theorem de_lc {elt tg iter : Expr} {ifs : List Expr} {scope : Scope} {own : List (Str × Nat)} {t : Tgt} {mi : MI} {tt : MT} {me : ME} (hc : X.calm = true) (hN : X.N.Nodup) (hi : DI X G W tg iter mi) (ok : blkC X.N X.env.scope scope own = true)
    (hg : ∀ (s : Shared) (H : Hp) (C : Addr) (cl : List (Str × Addr)) (fp : List Addr), DG (X.blk s H scope (compEnvC scope cl C X.env) fp) G tg t) (ht : ∀ (s : Shared) (H : Hp) (C : Addr) (cl : List (Str × Addr)) (fp : List Addr), DTs (X.blk s H scope (compEnvC scope cl C X.env) fp) G W0 ifs tt)
    (he : ∀ (s : Shared) (H : Hp) (C : Addr) (cl : List (Str × Addr)) (fp : List Addr), DE (X.blk s H scope (compEnvC scope cl C X.env) fp) G W0 elt me) (hsl : ∀ i ∈ slots t, i ∈ own.map (·.2) := by decide)
    (hs : ∀ x, foldedSetIterable iter X.env x = pure x := by intro _; rfl) :
    DE X G W (.ListComp elt [⟨tg, iter, ifs, 0⟩] scope pos) (mLc t (own.map (·.2)) mi tt me) :=
  peImp (pe_lc hc hN hi (blkOk_by ok) hg ht he hs) fun σ H Q h => tLc_ok hsl h
theorem ds_setLc {i : Nat} {y : Str} {py : Pos} {elt tg iter : Expr} {ifs : List Expr} {scope : Scope} {own : List (Str × Nat)} {spos : Pos} {t : Tgt} {mi : MI} {tt : MT} {me : ME} (hc : X.calm = true) (hN : X.N.Nodup) (hy : X.N[i]? = some y) (hyl : X.env.scope.names.lookup y = some .local)
    (hsw : swapsWith (.ListComp elt [⟨tg, iter, ifs, 0⟩] scope pos) (some (.Name y py)) spos.line X.env = pure true) (hi : DI X G W tg iter mi) (ok : blkC X.N X.env.scope scope own = true)
    (hg : ∀ (s : Shared) (H : Hp) (C : Addr) (cl : List (Str × Addr)) (fp : List Addr), DG (X.blk s H scope (compEnvC scope cl C X.env) fp) G tg t) (ht : ∀ (s : Shared) (H : Hp) (C : Addr) (cl : List (Str × Addr)) (fp : List Addr), DTs (X.blk s H scope (compEnvC scope cl C X.env) fp) G W0 ifs tt)
    (he : ∀ (s : Shared) (H : Hp) (C : Addr) (cl : List (Str × Addr)) (fp : List Addr), DE (X.blk s H scope (compEnvC scope cl C X.env) fp) G W0 elt me) (hsl : ∀ i ∈ slots t, i ∈ own.map (·.2) := by decide)
    (hs : ∀ x, foldedSetIterable iter X.env x = pure x := by intro _; rfl) :
    DS X G W (.Assign [.Name y py] (.ListComp elt [⟨tg, iter, ifs, 0⟩] scope pos) spos) (mSet i (mLc t (own.map (·.2)) mi tt me)) :=
  psImp (ps_setLc hc hN hy hyl hsw hi (blkOk_by ok) hg ht he hs) fun Z σ H ⟨g, env, S, I, h⟩ => tLc_ok hsl (bindS_ok (R := fun x H1 => Z.nx (σ.set i (some x)) H1) I h fun d o env1 v H1 S1 gr hv h => setE_ok hv h)
end
end DL

set_option Elab.async false
set_option linter.all false
set_option maxRecDepth 100000
set_option maxHeartbeats 1000000
/-! DL10: defs and their calls. -/
namespace DL
open PySem L2
/-- the arguments: all shared; or the first one a root to be changed -/
def ArgsR (G : Ctx) (H : Hp) (S : Sset) (fa : Option Addr) (vs : List V) (ds : List D) : Prop := match fa with
  | none => RepL G H S vs ds
  | some a => ∃ d ds' vs', vs = .ref a :: vs' ∧ ds = d :: ds' ∧ Own G H S a d ∧ RepL G H S vs' ds'
/-- what became of it -/
def FinR (G : Ctx) (H : Hp) (S : Sset) (fa : Option Addr) (f : Option D) : Prop := match fa with
  | none => True
  | some a => ∃ d, f = some d ∧ Own G H S a d
/-- THE PROMISE of a def that reckons c -/
def SpF (G : Ctx) (io : Bool) (n : Nat) (c : FN) : Sp := fun vs H Q E => vs.length = n ∧ ∃ S ds fa, fa.isSome = io ∧ ShOk G H S ∧ ArgsR G H S fa vs ds ∧ match c ds with
  | .ok d o f => ∀ v H' S' P', SI G ⟨H, S, fa, false⟩ [] H' [] S' P' → FinR G H' S' fa f → (match o with | true => ∃ a, v = .ref a ∧ H a = none ∧ Own G H' S' a d | false => Rep G H' S' v d) → Q v H'
  | .exc k fs f => ∀ cls dd H' S' P', SI G ⟨H, S, fa, false⟩ [] H' [] S' P' → FinR G H' S' fa f → ExcRep G H' S' cls dd k fs → E cls dd H'
  | .bad => False
def finE (io : Bool) (env : EV) : Option D := match io, env[0]? with
  | true, some (some (d, Tag.p)) => some d
  | _, _ => none
/-- a def by its body: n slots -/
def mkFn (n : Nat) (io : Bool) (body : MS) : FN := fun ds => match body (startE n io ds) with
  | .nx e => .ok .non false (finE io e)
  | .rt d o e => .ok d o (finE io e)
  | .exc c fs e => .exc c fs (finE io e)
  | _ => .bad
section
variable {X : Cx} {G : Ctx} {W : WX} {g : Gh} {σ : St} {H H1 H' : Hp} {env env1 : EV} {S S1 : Sset} {P : List (Addr × D)} {Q : VK} {v : V} {d d' : D} {o : Bool} {e : Expr} {m : ME} {pos : Pos} {a : Addr}
theorem SI.bare (I : SI G g σ H env S P) : SI G ⟨g.H0, g.S0, g.fa, false⟩ [] H [] S P :=
  ⟨rfl, fun i d h => by simp at h, fun i d t _ h => by simp at h, fun i j d e t u a _ _ h => by simp at h, fun i d h => by simp at h, fun a _ h => (nomatch h), I.pend, I.pun, fun p _ i d t _ h => by simp at h, I.fr, I.sh0, I.sh1, I.shH, I.tab, I.nt⟩
theorem SI.fin (I : SI G g σ H env S P) (hn : g.inF = true) : FinR G H S g.fa (finE g.fa.isSome env) := by
  cases q : g.fa with
  | none => trivial
  | some a =>
    obtain ⟨d, h⟩ := I.pin0 a q hn
    refine ⟨d, by show finE true env = some d; unfold finE; rw [h], ?_⟩
    obtain ⟨b, h1, h2, h3⟩ := I.own 0 d .p (by decide) h
    obtain ⟨_, c, h4, h5⟩ := I.pin 0 d h
    rw [h1] at h4; injection h4 with h4; injection h4 with h4; injection h4 with h4
    rw [q] at h5; injection h5 with h5
    rw [h4, ← h5] at h2
    exact h2
theorem SI.newRoot (I : SI G g σ H env S ((a, d) :: P)) (hn : g.inF = true) : g.H0 a = none := by
  rcases (I.pend (a, d) List.mem_cons_self).2 with h | h
  · exact h
  · obtain ⟨d', h1⟩ := I.pin0 a h hn
    obtain ⟨_, b, h2, h3⟩ := I.pin 0 d' h1
    rw [h] at h3; injection h3 with h3
    subst h3
    exact absurd h2 (I.pdis (a, d) List.mem_cons_self 0 d' .p (by decide) h1)
theorem map_get {α β : Type} {f : α → β} {l : List α} {i : Nat} {y : β} (h : (l.map f)[i]? = some y) : ∃ x, l[i]? = some x ∧ y = f x := by
  rw [List.getElem?_map] at h
  cases q : l[i]? with
  | none => rw [q] at h; cases h
  | some x => rw [q] at h; exact ⟨x, rfl, (Option.some.inj h).symm⟩
theorem start_get {N : List Str} {vs : List V} {i : Nat} {v : V} (h : vs[i]? = some v) : (L2.start N vs)[i]? = some (some v) := by
  have hi : i < vs.length := (List.getElem?_eq_some_iff.mp h).1
  unfold L2.start
  rw [List.getElem?_append_left (by simpa using hi), List.getElem?_map, h]; rfl
theorem rep_app {l : List (Option (D × Tag))} {k i : Nat} {x : D × Tag} (h : (l ++ List.replicate k none)[i]? = some (some x)) : l[i]? = some (some x) := by
  by_cases hi : i < l.length
  · rwa [List.getElem?_append_left hi] at h
  · rw [List.getElem?_append_right (by omega), List.getElem?_replicate] at h
    split at h <;> cases h
theorem SI.start {N : List Str} {vs : List V} {ds : List D} {fa : Option Addr} (hS : ShOk G H S) (ar : ArgsR G H S fa vs ds) (hN : vs.length ≤ N.length) : SI G ⟨H, S, fa, true⟩ (L2.start N vs) H (startE N.length fa.isSome ds) S [] := by
  have hlen : (L2.start N vs).length = N.length := by unfold L2.start; rw [List.length_append, List.length_map, List.length_replicate]; omega
  cases fa with
  | none =>
    have ar : RepL G H S vs ds := ar
    have e0 : startE N.length false ds = (ds.map fun x => some (x, Tag.s)) ++ List.replicate (N.length - ds.length) none := by cases ds <;> rfl
    have get : ∀ {i : Nat} {x : D × Tag}, (startE N.length false ds)[i]? = some (some x) → ds[i]? = some x.1 ∧ x.2 = .s := fun {i x} h => by
      rw [e0] at h
      obtain ⟨y, h1, h2⟩ := map_get (rep_app h)
      injection h2 with h2; subst h2
      exact ⟨h1, rfl⟩
    refine ⟨?_, fun i d h => ?_, fun i d t ht h => absurd (get h).2 ht, fun i j d e t u a ht _ h => absurd (get h).2 ht, fun i d h => (nomatch (get h).2), fun a h => (nomatch h), fun p hp => (nomatch hp), List.nodup_nil, fun p hp => (nomatch hp), fun a o h _ => .inl h, fun a h => h, fun a h => .inl h, hS.1, hS.2.1, hS.2.2⟩
    · rw [hlen]
      show (startE N.length false ds).length = _
      rw [e0, List.length_append, List.length_map, List.length_replicate, ← ar.length]; omega
    · obtain ⟨v, h1, h2⟩ := ar.get (get h).1
      exact ⟨v, start_get h1, h2⟩
  | some a =>
    obtain ⟨d0, ds', vs', rfl, rfl, own, ar⟩ := ar
    have e0 : startE N.length true (d0 :: ds') = (some (d0, Tag.p) :: ds'.map fun x => some (x, Tag.s)) ++ List.replicate (N.length - (d0 :: ds').length) none := rfl
    have get : ∀ {i : Nat} {x : D × Tag}, (startE N.length true (d0 :: ds'))[i]? = some (some x) → (i = 0 ∧ x = (d0, .p)) ∨ ∃ j, i = j + 1 ∧ ds'[j]? = some x.1 ∧ x.2 = .s := fun {i x} h => by
      rw [e0] at h
      have h := rep_app h
      cases i with
      | zero => simp at h; exact .inl ⟨rfl, h.symm⟩
      | succ j =>
        refine .inr ⟨j, rfl, ?_⟩
        have h : (ds'.map fun x => some (x, Tag.s))[j]? = some (some x) := by simpa using h
        obtain ⟨y, h1, h2⟩ := map_get h
        injection h2 with h2; subst h2
        exact ⟨h1, rfl⟩
    have s0 : (L2.start N (.ref a :: vs'))[0]? = some (some (V.ref a)) := start_get rfl
    refine ⟨?_, fun i d h => ?_, fun i d t ht h => ?_, fun i j d e t u b ht hu h h' _ _ => ?_, fun i d h => ?_, fun b h _ => ?_, fun p hp => (nomatch hp), List.nodup_nil, fun p hp => (nomatch hp), fun b o h _ => .inl h, fun b h => h, fun b h => .inl h, hS.1, hS.2.1, hS.2.2⟩
    · rw [hlen]
      show (startE N.length true (d0 :: ds')).length = _
      rw [e0, List.length_append, List.length_cons, List.length_map, List.length_replicate]
      have := ar.length
      simp only [List.length_cons] at hN ⊢
      omega
    · rcases get h with ⟨_, h⟩ | ⟨j, rfl, h1, _⟩
      · cases h
      · obtain ⟨v, h1, h2⟩ := ar.get h1
        exact ⟨v, start_get (by simpa using h1), h2⟩
    · rcases get h with ⟨rfl, h⟩ | ⟨j, rfl, h1, h2⟩
      · cases h; exact ⟨a, s0, own, .inr rfl⟩
      · exact absurd h2 ht
    · rcases get h with ⟨rfl, _⟩ | ⟨_, _, _, z⟩
      · rcases get h' with ⟨rfl, _⟩ | ⟨_, _, _, z⟩
        · rfl
        · exact absurd z hu
      · exact absurd z ht
    · rcases get h with ⟨rfl, h⟩ | ⟨_, _, _, z⟩
      · exact ⟨rfl, a, s0, rfl⟩
      · cases z
    · exact ⟨d0, by show (startE N.length true (d0 :: ds'))[0]? = _; rw [e0]; rfl⟩
end
section
variable {P : Program} {w : World} {K : PySem.W.Frag} {mg : Str → Option Value} {base : Heap} {G : Ctx}
/-- what a body wishes of what it raises -/
abbrev WD (E : XK) : WX := fun cls dd _ H => E cls dd H
theorem sp_start {W : WX} {N : List Str} {n : Nat} {io : Bool} {mb : MS} {vs : List V} {H : Hp} {Q : VK} {E : XK} (h : SpF G io n (mkFn N.length io mb) vs H Q E) (hn : n ≤ N.length) : trS G (WD E) mb { nx := fun _ H' => Q .non H', rt := Q } (L2.start N vs) H := by
  obtain ⟨hl, S, ds, fa, hfa, hS, ar, h⟩ := h
  subst hfa
  have I := SI.start (N := N) hS ar (by rw [hl]; exact hn)
  refine ⟨⟨H, S, fa, true⟩, startE N.length fa.isSome ds, S, I, ?_⟩
  unfold mkFn at h
  cases q : mb (startE N.length fa.isSome ds) with
  | bad => rw [q] at h; exact h.elim
  | bk e => rw [q] at h; exact h.elim
  | ct e => rw [q] at h; exact h.elim
  | nx e =>
    rw [q] at h
    exact fun σ' H' S' gr I' => h .non H' S' [] I'.bare (I'.fin rfl) .non
  | rt d o e =>
    rw [q] at h
    intro v σ' H' S' gr hv
    cases o with
    | false => exact h v H' S' [] hv.1.bare (hv.1.fin rfl) hv.2
    | true =>
      obtain ⟨a, rfl, I'⟩ := hv
      exact h _ H' S' _ I'.bare (I'.fin rfl) ⟨a, rfl, I'.newRoot rfl, (I'.pend (a, d) List.mem_cons_self).1⟩
  | exc c fs e =>
    rw [q] at h
    exact fun cls dd σ' H' S' gr I' r => h cls dd H' S' [] I'.bare (I'.fin rfl) r
/-- THE RULE for a def -/
theorem fn_ok {x qual : Str} {st : Stmt} {f : Addr} {fd : FuncData} {N ps : List Str} {k : Nat} {io : Bool} {mb : MS} (F : Fun K x qual st f fd) (Sc : FnScope N ps (defScope st)) (h0 : N ≠ []) (hio : io = true → ps ≠ [])
    (hb : ∀ (cdv : Value) (A : Around) (outer : List Env) (s : Shared) (H : Hp) (E : XK), Room k (A.deeper (PyProof.Rows.envOfC qual (defScope st) s.heap.objs.size f cdv)) →
      Takes (cxOf (L2.CX P w) P w K mg base N qual (defScope st) f cdv A outer s H E) (WD E) → DSs (cxOf (L2.CX P w) P w K mg base N qual (defScope st) f cdv A outer s H E) G (WD E) (defBody st) mb) :
    FnOk P w K mg base (L2.CX P w) (k + 1) f fd ps (SpF G io ps.length (mkFn N.length io mb)) := by
  refine F.okX Sc (fun vs H Q E h => h.1) fun cdv A outer s H vs Q E hr h => ⟨_, hb cdv A outer s H E hr (takes_of rfl rfl rfl rfl), ?_⟩
  have hpl : ps.length ≤ N.length := by rw [← Sc.pre]; exact List.length_take_le' _ _
  exact sp_start (W := WD E) h hpl
end
end DL

set_option Elab.async false
set_option linter.all false
set_option maxRecDepth 100000
set_option maxHeartbeats 1000000
/-! DL11: calls of defs, of classes, of methods; fields stored. -/
namespace DL
open PySem L2
/-- a def's answer, io: the root in slot i is changed by it -/
def ansE (i : Option Nat) (r : RC) : ME := fun env => match i with
  | none => match r with
    | .ok d o _ => .ok d o env
    | .exc c fs _ => .exc c fs env
    | .bad => .bad
  | some i => match env[i]? with
    | some (some (_, t)) => match r with
      | .ok d o (some f) => .ok d o (env.set i (some (f, t)))
      | .exc c fs (some f) => .exc c fs (env.set i (some (f, t)))
      | _ => .bad
    | _ => .bad
/-- the arguments of a call: shared all; or a root's slot first -/
def mCall (c : FN) (ms : List ME) (dds : List D) : ME := bindL ms fun ds => ansE none (c (ds ++ dds))
def mCallIO (c : FN) (i : Nat) (ms : List ME) (dds : List D) : ME := bindO (.pl i) fun _ => bindL ms fun ds env => match env[i]? with
  | some (some (d, t)) => match t with
    | .s => .bad
    | _ => ansE (some i) (c (d :: (ds ++ dds))) env
  | _ => .bad
section
variable {X : Cx} {G : Ctx} {W : WX} {g : Gh} {σ : St} {H H1 H' : Hp} {env env1 : EV} {S S1 : Sset} {P : List (Addr × D)} {Q : VK} {v : V} {d d' : D} {o : Bool} {e : Expr} {es : List Expr} {m : ME} {ms : List ME} {pos p : Pos} {a : Addr} {c : FN} {n k : Nat} {f : Addr} {fd : FuncData} {ps : List Str} {x : Str} {vs dvs : List V} {ds dds : List D} {dus : List Value}
/-- what the callee's promise asks, shared arguments -/
theorem sp_call (I : SI G g σ H env S P) (r : RepL G H S vs ds) (hn : vs.length = n) (h : PostE G W g σ H S P Q (ansE none (c ds) env)) : SpF G false n c vs H Q (fun cls dd H => W cls dd σ H) := by
  refine ⟨hn, S, ds, none, rfl, I.sho, r, ?_⟩
  unfold ansE at h
  cases q : c ds with
  | bad => rw [q] at h; exact h.elim
  | exc k fs f =>
    rw [q] at h
    intro cls dd H' S' P' J _ er
    obtain ⟨I', gr⟩ := I.call0 J
    exact h cls dd H' S' gr I' er
  | ok d o f =>
    rw [q] at h
    intro v H' S' P' J _ hv
    obtain ⟨I', gr⟩ := I.call0 J
    refine h v H' S' gr ?_
    cases o with
    | false => exact ⟨I', hv⟩
    | true =>
      obtain ⟨a, rfl, h1, h2⟩ := hv
      exact ⟨a, rfl, I.fresh I' h1 h2 fun _ e _ h => ⟨e, h⟩⟩
/-- .. a root first -/
theorem sp_callIO {i : Nat} {t : Tag} (I : SI G g σ H env S P) (ht : t ≠ .s) (he : env[i]? = some (some (d, t))) (hσ : σ[i]? = some (some (.ref a))) (r : RepL G H S vs ds) (hn : (V.ref a :: vs).length = n)
    (h : PostE G W g σ H S P Q (ansE (some i) (c (d :: ds)) env)) : SpF G true n c (.ref a :: vs) H Q (fun cls dd H => W cls dd σ H) := by
  obtain ⟨b, h1, h2, _⟩ := I.own i d t ht he
  rw [hσ] at h1; injection h1 with h1; injection h1 with h1; injection h1 with h1; subst h1
  refine ⟨hn, S, d :: ds, some a, rfl, I.sho, ⟨d, ds, vs, rfl, rfl, h2, r⟩, ?_⟩
  unfold ansE at h
  simp only [he] at h
  have tags : ∀ {f : D} (j : Nat) (e : D) (u : Tag), (env.set i (some (f, t)))[j]? = some (some (e, u)) → ∃ e', env[j]? = some (some (e', u)) := fun {f} j e u q => by
    rcases get_set q with ⟨rfl, z⟩ | ⟨_, z⟩
    · injection z with z; injection z with _ z; subst z; exact ⟨d, he⟩
    · exact ⟨e, z⟩
  cases q : c (d :: ds) with
  | bad => simp only [q] at h; exact h.elim
  | exc k fs f =>
    simp only [q] at h
    cases f with
    | none => exact h.elim
    | some f =>
      intro cls dd H' S' P' J hf er
      obtain ⟨_, hf, ho⟩ := hf
      injection hf with hf; subst hf
      obtain ⟨I', gr⟩ := I.call1 ht he hσ J ho
      exact h cls dd H' S' gr I' er
  | ok d2 o f =>
    simp only [q] at h
    cases f with
    | none => exact h.elim
    | some f =>
      intro v H' S' P' J hf hv
      obtain ⟨_, hf, ho⟩ := hf
      injection hf with hf; subst hf
      obtain ⟨I', gr⟩ := I.call1 ht he hσ J ho
      refine h v H' S' gr ?_
      cases o with
      | false => exact ⟨I', hv⟩
      | true =>
        obtain ⟨b, rfl, k1, k2⟩ := hv
        exact ⟨b, rfl, I.fresh I' k1 k2 tags⟩
theorem PostE.bad {r : RE} (h : PostE G W g σ H S P Q r) (e : r = .bad) : False := by subst e; exact h
/-- f(e, ..) -/
theorem de_call (F : FnOk X.prog X.w X.K X.mg X.base (L2.CX X.prog X.w) k f fd ps (SpF G false n c)) (hr : Room k X.A) (hg : Gl X x) (hm : X.mg x = some (.ref f)) (hk : PySem.W.keepIn X.K (.ref f) = true) (hb : Binds X.K fd ps dus) (hd : Vals dvs dus) (tk : Takes X W)
    (ha : DA X G W (e :: es) ms) (hn : ms.length + dvs.length = n) (hdd : ∀ (H : Hp) (S : Sset), RepL G H S dvs dds) (hdb : (x == ("__debug__" : Str)) = false := by decide) (he : starEach (e :: es) X.env = (false, eval e X.env) :: starEach es X.env := by rfl) (hpl : (backTo pos (starEach es X.env)).any (·.1) = false := by rfl) :
    DE X G W (.Call (.Name x p) (e :: es) [] pos) (mCall c ms dds) :=
  peImp (pe_callSD F hr hg hm hk hb hd (fun σ => passAt tk σ) ha hdb he hpl) fun σ H Q ⟨g, env, S, P, I, h⟩ => bindL_ok I h fun ds env1 vs H1 S1 gr I1 r l h =>
    sp_call I1 (r.append (hdd H1 S1)) (by rw [List.length_append, l]; exact hn) h
theorem bindPl_ok {i : Nat} {k : Opd → ME} {R : VK} (I : SI G g σ H env S P) (h : PostE G W g σ H S P Q (bindO (.pl i) k env))
    (hk : ∀ v, σ[i]? = some (some v) → PostE G W g σ H S P Q (k (.pl i) env) → R v H) : tVar i σ H R := by
  unfold bindO at h
  cases q : env[i]? with
  | none => simp only [q] at h; exact h.elim
  | some r =>
    cases r with
    | none => simp only [q] at h; exact h.elim
    | some dt =>
      simp only [q] at h
      obtain ⟨d, t⟩ := dt
      by_cases ht : t = .s
      · subst ht
        obtain ⟨w, h1, _⟩ := I.shr i d q
        exact ⟨w, h1, hk w h1 h⟩
      · obtain ⟨a, h1, _⟩ := I.own i d t ht q
        exact ⟨_, h1, hk _ h1 h⟩
theorem len_cons_app {b : Addr} {j : Nat} (l : vs.length = j) (h : 1 + j + dvs.length = n) : ((V.ref b :: vs) ++ dvs).length = n := by rw [List.length_append, List.length_cons, l]; omega
theorem paConsVar {i : Nat} {e : Expr} (he : PE X e (tVar i)) (hr : DA X G W es ms) (hs : starEach (e :: es) X.env = (false, eval e X.env) :: starEach es X.env := by rfl) : PA X (e :: es) (tCons (tVar i) (trL G W ms)) := pa_cons he hr hs
/-- f(x, e, ..), x a root that f changes -/
theorem de_callIO {i : Nat} (F : FnOk X.prog X.w X.K X.mg X.base (L2.CX X.prog X.w) k f fd ps (SpF G true n c)) (hr : Room k X.A) (hg : Gl X x) (hm : X.mg x = some (.ref f)) (hk : PySem.W.keepIn X.K (.ref f) = true) (hb : Binds X.K fd ps dus) (hd : Vals dvs dus) (tk : Takes X W)
    (hv : PE X e (tVar i)) (ha : DA X G W es ms) (hn : 1 + ms.length + dvs.length = n) (hdd : ∀ (H : Hp) (S : Sset), RepL G H S dvs dds) (hdb : (x == ("__debug__" : Str)) = false := by decide) (he : starEach (e :: es) X.env = (false, eval e X.env) :: starEach es X.env := by rfl) (hpl : (backTo pos (starEach es X.env)).any (·.1) = false := by rfl) :
    DE X G W (.Call (.Name x p) (e :: es) [] pos) (mCallIO c i ms dds) :=
  peImp (pe_callSD F hr hg hm hk hb hd (fun σ => passAt tk σ) (paConsVar hv ha he) hdb he hpl) fun σ H Q ⟨g, env, S, P, I, h⟩ => by
    show tVar i σ H (fun x H1 => trL G W ms σ H1 fun xs H2 => SpF G true n c ((x :: xs) ++ dvs) H2 Q (fun cls dd H => W cls dd σ H))
    refine bindPl_ok I h fun vr hvr h => ?_
    refine bindL_ok I h fun ds env1 vs H1 S1 gr I1 r l h => ?_
    cases q : env1[i]? with
    | none => simp only [q] at h; exact h.elim
    | some r0 =>
      cases r0 with
      | none => simp only [q] at h; exact h.elim
      | some dt =>
        obtain ⟨d, t⟩ := dt
        simp only [q] at h
        have ht : t ≠ .s := fun z => by subst z; exact h
        obtain ⟨b, h1, _, _⟩ := I1.own i d t ht q
        rw [hvr] at h1; injection h1 with h1; injection h1 with h1; subst h1
        have h : PostE G W g σ H1 S1 P Q (ansE (some i) (c (d :: (ds ++ dds))) env1) := by cases t <;> first | exact absurd rfl ht | exact h
        exact sp_callIO I1 ht q hvr (r.append (hdd H1 S1)) (len_cons_app (b := b) l hn) h
/-- behind a callee that changed a pending root alone -/
theorem SI.callP {fl : Bool} {σ' : St} {env' : EV} {S' : Sset} {R : List (Addr × D)} (I : SI G g σ H env S ((a, d) :: P)) (J : SI G ⟨H, S, some a, fl⟩ σ' H' env' S' R) (hn : Own G H' S' a d') : SI G g σ H' env S' ((a, d') :: P) ∧ Grow S H S' H' := by
  have ha := I.pend (a, d) List.mem_cons_self
  have nd : a ∉ P.map (·.1) := (List.nodup_cons.mp (by have := I.pun; rwa [List.map_cons] at this)).1
  have e : ∀ b o, b ≠ a → H b = some o → Keep H' b o := fun b o hb h => J.fr b o h (by simpa using Ne.symm hb)
  have gr : Grow S H S' H' := fun b hb => ⟨J.sh0 b hb, by
    obtain ⟨o, ho⟩ := I.shH b hb
    exact ((e b o (fun q => ha.1.1 (q ▸ hb)) ho).nt fun ps z => I.nt b hb ps (ho.trans z)).trans ho.symm⟩
  have nS : ∀ b, b ≠ a → ¬ S b → (∃ o, H b = some o) → (∀ φ, H b ≠ some (.ext φ)) → ¬ S' b := fun b hba hb ⟨o, ho⟩ hx h => by
    rcases J.sh1 b h with h | h | h | ⟨φ, h⟩
    · exact hb h
    · have h : H b = none := h
      rw [h] at ho; cases ho
    · have h : some a = some b := h
      injection h with h; exact hba h.symm
    · exact hx φ h
  have ow : ∀ {b : Addr} {e' : D}, b ≠ a → Own G H S b e' → Own G H' S' b e' := fun {b e'} hb ⟨h1, h2⟩ => by
    obtain ⟨o, ho⟩ := h2.some
    exact ⟨nS b hb h1 ⟨o, ho⟩ h2.ne_ext, h2.mono gr (((e b o hb ho).nt fun ps z => h2.nt ps (ho.trans z)).trans ho.symm)⟩
  have base : SI G g σ H' env S' P := by
    refine ⟨I.len, fun j x q => ?_, fun j x u hu q => ?_, I.uniq, I.pin, I.pin0, fun p hp => ⟨ow (fun z => nd (z ▸ List.mem_map_of_mem hp)) (I.pop.pend p hp).1, (I.pop.pend p hp).2⟩, I.pop.pun, I.pop.pdis, fun b u q1 q2 => ?_, fun b h => J.sh0 b (I.sh0 b h), fun b h => ?_, J.shH, J.tab, J.nt⟩
    · obtain ⟨v, q1, q2⟩ := I.shr j x q
      exact ⟨v, q1, q2.mono gr⟩
    · obtain ⟨b, q1, q2, q3⟩ := I.own j x u hu q
      exact ⟨b, q1, ow (fun z => I.pdis (a, d) List.mem_cons_self j x u hu q (z ▸ q1)) q2, q3⟩
    · have nb : b ≠ a := fun z => by
        subst z
        rcases ha.2 with h3 | h3
        · rw [h3] at q1; cases q1
        · exact q2 h3
      rcases I.fr b u q1 q2 with k | ⟨k1, ps, k⟩
      · exact e b u nb k
      · rcases e b _ nb k with q | ⟨_, q⟩
        · exact .inr ⟨k1, ps, q⟩
        · exact .inr ⟨k1, q⟩
    · rcases J.sh1 b h with h | h | h | ⟨φ, h⟩
      · exact I.sh1 b h
      · exact sh1_ok (I.okNew h)
      · have h : some a = some b := h
        injection h with h; subst h; exact sh1_ok ha.2
      · exact I.sh1_ext h
  exact ⟨base.push hn ha.2 (fun p hp q => nd (q ▸ List.mem_map_of_mem hp)) (I.pdis (a, d) List.mem_cons_self), gr⟩
/-- a new instance's state -/
theorem SI.made {cls : Nat} {y dx : Addr} (I : SI G g σ H env S P) (hx : H y = none) (hdx : H dx = none) (ne : dx ≠ y) :
    SI G g σ (L2.upd (L2.upd H dx (.own y)) y (.ins (G.C cls) dx [])) env S ((y, .obj cls []) :: P) ∧ Grow S H S (L2.upd (L2.upd H dx (.own y)) y (.ins (G.C cls) dx [])) := by
  have h1 : (L2.upd H dx (.own y)) y = none := by rw [upd_ne (Ne.symm ne)]; exact hx
  have ex : Ext H (L2.upd (L2.upd H dx (.own y)) y (.ins (G.C cls) dx [])) := (Ext.upd hdx).trans (Ext.upd h1)
  have I2 := I.extOwn (N := Nul) (H' := L2.upd (L2.upd H dx (.own y)) y (.ins (G.C cls) dx [])) (a := y) (d := .obj cls []) ex (fun _ h => h.elim) hx id ⟨dx, [], by rw [upd_same, List.zip_nil_right], Nat.zero_le _, .nil⟩
  rw [or1_nul] at I2
  exact ⟨I2, I.grow ex S fun _ h => h⟩
def makeE (r : RC) : ME := fun env => match r with
  | .ok d _ (some f) => match d with
    | .non => .ok f true env
    | _ => .bad
  | .exc c fs _ => .exc c fs env
  | _ => .bad
/-- C(e, ..): c is its __init__ -/
def mMake (c : FN) (cls : Nat) (ms : List ME) (dds : List D) : ME := bindL ms fun ds => makeE (c (.obj cls [] :: (ds ++ dds)))
theorem sp_make {cls : Nat} (I : SI G g σ H env S P) (r : RepL G H S vs ds) (hn : 1 + vs.length = n) (h : PostE G W g σ H S P Q (makeE (c (.obj cls [] :: ds)) env)) :
    ∀ y dx, H y = none → H dx = none → dx ≠ y → SpF G true n c (.ref y :: vs) (L2.upd (L2.upd H dx (.own y)) y (.ins (G.C cls) dx [])) (fun v H2 => v = .non ∧ Q (.ref y) H2) (fun cls dd H => W cls dd σ H) := by
  intro y dx hy hdx ne
  obtain ⟨I2, g2⟩ := I.made (cls := cls) hy hdx ne
  refine ⟨by rw [List.length_cons]; omega, S, .obj cls [] :: ds, some y, rfl, I2.sho, ⟨_, ds, vs, rfl, rfl, (I2.pend (y, .obj cls []) List.mem_cons_self).1, r.mono g2⟩, ?_⟩
  unfold makeE at h
  cases q : c (.obj cls [] :: ds) with
  | bad => rw [q] at h; exact h.elim
  | exc k fs f =>
    rw [q] at h
    intro cls' dd H' S' P' J hf er
    obtain ⟨f', _, ho⟩ := hf
    obtain ⟨I', gr⟩ := I2.callP J ho
    exact h cls' dd H' S' (g2.trans gr) I'.pop er
  | ok d o f =>
    rw [q] at h
    cases f with
    | none => exact h.elim
    | some f =>
      cases d with
      | non =>
        intro v H' S' P' J hf hv
        obtain ⟨f', hf, ho⟩ := hf
        injection hf with hf; subst hf
        obtain ⟨I', gr⟩ := I2.callP J ho
        refine ⟨?_, h (.ref y) H' S' (g2.trans gr) ⟨y, rfl, I'⟩⟩
        cases o with
        | false => cases hv; rfl
        | true => obtain ⟨_, _, _, hv⟩ := hv; exact hv.2.elim
      | _ => exact h.elim
/-- the machine's side: a class called, what is raised wished for at the caller's slots -/
theorem runMake {C : Addr} {sp : Sp} {E : XK} {CXx : CXT} {pins : List (Addr × Obj)} {s : Shared} {us : List Value} {kws : List (Str × Value)} {bs : List Value} {ws : List V} (M : Mk X.K C f) (F : FnOk X.prog X.w X.K X.mg X.base CXx k f fd ps sp) (hr : Room (k + 1) X.A)
    (hb : ∀ (s : Shared) (u : Value), X.K.In s.heap → BindsTo s fd ⟨u :: us, kws⟩ (ps.zip (u :: bs))) (r : Vals ws bs) (hx : PassesAt CXx X σ E) (I : Inv X pins σ H s)
    (h : ∀ y dx, H y = none → H dx = none → dx ≠ y → sp (.ref y :: ws) (L2.upd (L2.upd H dx (.own y)) y (.ins C dx [])) (fun v H2 => v = .non ∧ Q (.ref y) H2) E) :
    wpAny (model X.prog X.w) X.A (call (.ref C) us kws) (EP X pins σ Q) X.xe s := by
  have I2 := Inv.made (C := C) I
  have q := h _ _ (I.hok.fresh (Nat.le_succ s.heap.objs.size)) (I.hok.fresh (Nat.le_refl s.heap.objs.size)) (Nat.ne_of_lt (Nat.lt_succ_self _))
  have rr : Vals (V.ref (s.heap.objs.size + 1) :: ws) (Value.ref (s.heap.objs.size + 1) :: bs) := .cons rfl r
  refine wpAny_call (make_map (f := f) I.kIn M.makes M.init (beq_iff_eq.mp M.fn) (codeAny_mono (F.run _ X.stack _ _ _ _ _ _ E (hr.make C us kws) (I2.env0.make C us kws) (hb _ _ I2.kIn) rr q) fun res s' hq => ?_))
  cases res with
  | error e => exact hx pins _ _ e s' I2 hq
  | ok fl =>
    cases fl with
    | ret u =>
      obtain ⟨v, H', I3, rv, ev, q3⟩ := I2.after hq
      subst ev
      exact ⟨rv, V.ref (s.heap.objs.size + 1), H', I3, rfl, q3⟩
    | _ => exact hq.elim
theorem de_make {cls : Nat} (M : Mk X.K (G.C cls) f) (F : FnOk X.prog X.w X.K X.mg X.base (L2.CX X.prog X.w) k f fd ps (SpF G true n c)) (hr : Room (k + 1) X.A) (hg : Gl X x) (hm : X.mg x = some (.ref (G.C cls))) (hb : Binds X.K fd ps dus) (hd : Vals dvs dus) (tk : Takes X W)
    (ha : DA X G W (e :: es) ms) (hn : 1 + ms.length + dvs.length = n) (hpn : ps.length = n) (hdd : ∀ (H : Hp) (S : Sset), RepL G H S dvs dds) (hdb : (x == ("__debug__" : Str)) = false := by decide) (he : starEach (e :: es) X.env = (false, eval e X.env) :: starEach es X.env := by rfl) (hpl : (backTo pos (starEach es X.env)).any (·.1) = false := by rfl) :
    DE X G W (.Call (.Name x p) (e :: es) [] pos) (mMake c cls ms dds) := by
  refine ⟨fun pins s σ H Q I h => ?_⟩
  obtain ⟨g, env, S, P, I0, h⟩ := h
  have h2 := bindL_ok (RL' := fun vs H1 => vs.length = ms.length ∧ ∀ y dx, H1 y = none → H1 dx = none → dx ≠ y → SpF G true n c (.ref y :: (vs ++ dvs)) (L2.upd (L2.upd H1 dx (.own y)) y (.ins (G.C cls) dx [])) (fun v H2 => v = .non ∧ Q (.ref y) H2) (fun cls dd H => W cls dd σ H)) I0 h
    fun ds env1 vs H1 S1 gr I1 r l h => ⟨l, sp_make I1 (r.append (hdd H1 S1)) (by rw [List.length_append, l]; omega) h⟩
  refine wpAny_Call_Name_kw (ld_glob I hg hm ?_ hdb)
  refine PySem.W.callWith_K (h₀ := X.base) I.ok.mod.kin M.kp (thn (ha.run pos pins s σ H _ I h2) fun us s1 ⟨vs, H1, I1, r, l, q⟩ => ⟨I1.kIn, ?_⟩) he hpl
  have r2 := r.append hd
  refine runMake (bs := us ++ dus) M F hr (fun s2 u hk => ?_) r2 (passAt tk σ) I1 q
  have := hb s2 (u :: us) hk (by rw [List.cons_append, List.length_cons, ← r2.length, List.length_append, l]; omega)
  rwa [List.cons_append] at this
end
end DL

set_option Elab.async false
set_option linter.all false
set_option maxRecDepth 100000
set_option maxHeartbeats 1000000
/-! DL12: fields stored, roots changed in place, sorted texts, slices, join, isinstance. -/
namespace DL
open PySem L2
section
variable {X : Cx} {G : Ctx} {W : WX} {g : Gh} {σ : St} {H H1 H' : Hp} {env env1 : EV} {S S1 : Sset} {P : List (Addr × D)} {Q : VK} {Z : Ends} {v w : V} {d d' : D} {o : Bool} {e : Expr} {es : List Expr} {m : ME} {ms : List ME} {pos p : Pos} {a : Addr} {x : Str}
/-! ### self.f = e -/
theorem putF_zip_new {f : Str} {v : V} : ∀ {F : List Str} {vs : List V}, F.Nodup → F[vs.length]? = some f → putF f v (F.zip vs) = F.zip (vs ++ [v])
  | [], vs, _, h => by simp at h
  | y :: F, [], _, h => by
    simp at h; subst h
    simp [putF]
  | y :: F, u :: vs, nd, h => by
    have nd' := List.nodup_cons.mp nd
    have hF : F[vs.length]? = some f := by simpa using h
    have ne : ¬ y = f := fun e => nd'.1 (e ▸ List.mem_of_getElem? hF)
    rw [List.zip_cons_cons, List.cons_append, List.zip_cons_cons]
    show (if y = f then (y, v) :: F.zip vs else (y, u) :: putF f v (F.zip vs)) = _
    rw [if_neg ne, putF_zip_new nd'.2 hF]
theorem putF_zip_old {f : Str} {v : V} : ∀ {F : List Str} {vs : List V} {j : Nat}, F.Nodup → F[j]? = some f → j < vs.length → putF f v (F.zip vs) = F.zip (vs.set j v)
  | [], vs, j, _, h, _ => by simp at h
  | y :: F, [], j, _, _, hj => by simp at hj
  | y :: F, u :: vs, 0, _, h, _ => by
    simp at h; subst h
    simp [putF]
  | y :: F, u :: vs, j + 1, nd, h, hj => by
    have nd' := List.nodup_cons.mp nd
    have hF : F[j]? = some f := by simpa using h
    have ne : ¬ y = f := fun e => nd'.1 (e ▸ List.mem_of_getElem? hF)
    rw [List.zip_cons_cons, List.set_cons_succ, List.zip_cons_cons]
    show (if y = f then (y, v) :: F.zip vs else (y, u) :: putF f v (F.zip vs)) = _
    rw [if_neg ne, putF_zip_old nd'.2 hF (by simpa using hj)]
def putAt (j : Nat) (ds : List D) (d : D) : Option (List D) := match decide (j < ds.length) with
  | true => some (ds.set j d)
  | false => match decide (j = ds.length) with
    | true => some (ds ++ [d])
    | false => none
/-- a root in slot i is changed: p tells how -/
def updE (i : Nat) (p : D → Option D) (k : EV → RS) : MS := fun env => match env[i]? with
  | some (some (d, t)) => match t with
    | .s => .bad
    | t => match p d with
      | some d' => k (env.set i (some (d', t)))
      | none => .bad
  | _ => .bad
def fldPut (idx : Nat → Option Nat) (d : D) : D → Option D
  | .obj c ds => match idx c with
    | some j => (putAt j ds d).map (.obj c ·)
    | none => none
  | _ => none
def mFld (i : Nat) (idx : Nat → Option Nat) (m : ME) : MS := bindS m fun d _ => updE i (fldPut idx d) .nx
theorem updE_ok {i : Nat} {p : D → Option D} (I : SI G g σ H env S []) (h : PostS G W g H S Z (updE i p .nx env)) : ∃ d t d' a, env[i]? = some (some (d, t)) ∧ t ≠ .s ∧ p d = some d' ∧ σ[i]? = some (some (.ref a)) ∧ Own G H S a d ∧
    ∀ u, At G (L2.upd H a u) S a d' → Z.nx σ (L2.upd H a u) := by
  unfold updE at h
  cases q : env[i]? with
  | none => simp only [q] at h; exact h.elim
  | some r =>
    cases r with
    | none => simp only [q] at h; exact h.elim
    | some dt =>
      obtain ⟨d, t⟩ := dt
      simp only [q] at h
      have ht : t ≠ .s := fun z => by subst z; exact h
      have h : PostS G W g H S Z (match p d with | some d' => .nx (env.set i (some (d', t))) | none => .bad) := by cases t <;> first | exact absurd rfl ht | exact h
      cases q2 : p d with
      | none => simp only [q2] at h; exact h.elim
      | some d' =>
        simp only [q2] at h
        obtain ⟨a, h1, h2, _⟩ := I.own i d t ht q
        refine ⟨d, t, d', a, rfl, ht, q2, h1, h2, fun u hat => h σ _ S (fun b hb => ⟨hb, upd_ne (show b ≠ a from fun e => h2.1 (e ▸ hb))⟩) (I.write ht q h1 hat)⟩
theorem own_grow {u : HO} (h : Own G H S a d) : Grow S H S (L2.upd H a u) := fun b hb => ⟨hb, upd_ne (show b ≠ a from fun e => h.1 (e ▸ hb))⟩
theorem ds_fld {i : Nat} {f : Str} {idx : Nat → Option Nat} {pos' : Pos} {ob : Expr} (hf : FldOk X.K G f idx) (hF : ∀ c, (G.F c).length ≤ 900) (hob : PE X ob (tVar i)) (he : DE X G W e m) (hs : swapsWith e (some (.Attribute ob f pos')) pos.line X.env = pure false := by rfl) :
    DS X G W (.Assign [.Attribute ob f pos'] e pos) (mFld i idx m) :=
  psImp (ps_fld hob he hs) fun Z σ H ⟨g, env, S, I, h⟩ => bindS_ok I h fun d o env1 v H1 S1 gr hv h => by
    obtain ⟨S2, g2, I2, r2⟩ := hv.frz
    obtain ⟨d0, t, d', a, h1, h2, h3, h4, h5, k⟩ := updE_ok I2 (h.mono g2)
    cases d0 with
    | obj c ds =>
      obtain ⟨dx, vs, k1, k2, k3⟩ := h5.2
      simp only [fldPut] at h3
      cases q : idx c with
      | none => simp [q] at h3
      | some j =>
        obtain ⟨f1, f2, f3, f4⟩ := hf c j q
        simp only [q] at h3
        have lz : ((G.F c).zip vs).length < 1000 := by rw [List.length_zip]; have := hF c; omega
        refine ⟨.ref a, h4, a, _, dx, _, rfl, k1, f1, f2, lz, ?_⟩
        unfold putAt at h3
        have el := k3.length
        cases q1 : decide (j < ds.length) with
        | true =>
          have hj := of_decide_eq_true q1
          simp only [q1, Option.map_some, Option.some.injEq] at h3
          subst h3
          exact k _ ⟨dx, vs.set j v, by rw [upd_same, putF_zip_old f4 f3 (by omega)], by rw [List.length_set]; exact k2, (k3.set r2 j).mono (own_grow h5)⟩
        | false =>
          simp only [q1] at h3
          cases q3 : decide (j = ds.length) with
          | false => simp [q3] at h3
          | true =>
            have hj := of_decide_eq_true q3
            simp only [q3, Option.map_some, Option.some.injEq] at h3
            subst h3
            have hlt : j < (G.F c).length := (List.getElem?_eq_some_iff.mp f3).1
            exact k _ ⟨dx, vs ++ [v], by rw [upd_same, putF_zip_new f4 (by rw [el, ← hj]; exact f3)], by rw [List.length_append]; simp; omega, (k3.append (.cons r2 .nil)).mono (own_grow h5)⟩
    | _ => simp [fldPut] at h3

/-! ### a list's own methods -/
def updM (i : Nat) (r : Option (D × D)) : ME := fun env => match env[i]? with
  | some (some (_, t)) => match t with
    | .s => .bad
    | t => match r with
      | some (d', x) => .ok x false (env.set i (some (d', t)))
      | none => .bad
  | _ => .bad
def isLst (env : EV) (i : Nat) : Bool := match env[i]? with
  | some (some (.lst _, .o)) => true
  | some (some (.lst _, .p)) => true
  | _ => false
def datI (env : EV) (i : Nat) : D := match env[i]? with
  | some (some (d, _)) => d
  | _ => .non
/-- x.m(e, ..), x a list of the frame's -/
def mMt (i : Nat) (p : D → List D → Option (D × D)) (ms : List ME) : ME := fun env => match isLst env i with
  | true => bindL ms (fun ds env => updM i (p (datI env i) ds) env) env
  | false => .bad
/-- what a changing method does: PM -/
def PM (G : Ctx) (r : V → List V → Hp → VK → Prop) (p : D → List D → Option (D × D)) : Prop := ∀ (H : Hp) (S : Sset) (a : Addr) (d d' x : D) (ws : List V) (ds : List D) (Q : VK), Own G H S a d → RepL G H S ws ds → p d ds = some (d', x) →
  (∀ v u, At G (L2.upd H a u) S a d' → Rep G (L2.upd H a u) S v x → Q v (L2.upd H a u)) → r (.ref a) ws H Q
theorem isLst_ok {i : Nat} (I : SI G g σ H env S P) (h : isLst env i = true) : ∃ ds t a vs, env[i]? = some (some (.lst ds, t)) ∧ t ≠ .s ∧ σ[i]? = some (some (.ref a)) ∧ H a = some (.lst vs) := by
  unfold isLst at h
  split at h
  · rename_i ds q
    obtain ⟨a, h1, h2, _⟩ := I.own i _ .o (by decide) q
    obtain ⟨vs, k1, _⟩ := h2.2
    exact ⟨ds, .o, a, vs, q, by decide, h1, k1⟩
  · rename_i ds q
    obtain ⟨a, h1, h2, _⟩ := I.own i _ .p (by decide) q
    obtain ⟨vs, k1, _⟩ := h2.2
    exact ⟨ds, .p, a, vs, q, by decide, h1, k1⟩
  · cases h
theorem tMt {i : Nat} {K : PySem.W.Frag} {r : V → List V → Hp → VK → Prop} {p : D → List D → Option (D × D)} (hp : PM G r p) (h : trE G W (mMt i p ms) σ H Q) : tVar i σ H fun x H1 => tyV K "list" x H1 ∧ trL G W ms σ H1 fun xs H2 => r x xs H2 Q := by
  obtain ⟨g, env, S, P, I, h⟩ := h
  unfold mMt at h
  cases q : isLst env i with
  | false => simp only [q] at h; exact h.elim
  | true =>
    simp only [q] at h
    obtain ⟨ds0, t0, a, vs0, h1, h2, h3, h4⟩ := isLst_ok I q
    refine ⟨.ref a, h3, .inl ⟨rfl, vs0, SqL.of h4⟩, bindL_ok I h fun ds env1 vs H1 S1 gr I1 rl l h => ?_⟩
    unfold updM at h
    cases q1 : env1[i]? with
    | none => simp only [q1] at h; exact h.elim
    | some r0 =>
      cases r0 with
      | none => simp only [q1] at h; exact h.elim
      | some dt =>
        obtain ⟨d, t⟩ := dt
        simp only [q1] at h
        have ht : t ≠ .s := fun z => by subst z; exact h
        have h : PostE G W g σ H1 S1 P Q (match p (datI env1 i) ds with | some (d', x) => .ok x false (env1.set i (some (d', t))) | none => .bad) := by cases t <;> first | exact absurd rfl ht | exact h
        have ed : datI env1 i = d := by unfold datI; rw [q1]
        rw [ed] at h
        cases q2 : p d ds with
        | none => simp only [q2] at h; exact h.elim
        | some dx =>
          obtain ⟨d', x⟩ := dx
          simp only [q2] at h
          obtain ⟨b, k1, k2, _⟩ := I1.own i d t ht q1
          rw [h3] at k1; injection k1 with k1; injection k1 with k1; injection k1 with k1; subst k1
          exact hp H1 S1 a d d' x vs ds Q k2 rl q2 fun v u hat hr => h v _ S1 (own_grow k2) ⟨I1.write ht q1 h3 hat, hr⟩
theorem de_mt {i : Nat} {o : Expr} {id : String} {name : Str} {apos cpos : Pos} {r : V → List V → Hp → VK → Prop} {p : D → List D → Option (D × D)} (pa : PlainAttrs "list") (slot : Slot "list" name id) (hty : typeOf (.builtin id) = pure (.type "method_descriptor")) (hm : MtR X id r) (hp : PM G r p)
    (ho : PE X o (tVar i)) (ha : DA X G W (e :: es) ms) (hbase : attributeBase o name X.env (eval o X.env) = eval o X.env := by rfl)
    (hfew : ((backTo cpos (starEach (e :: es) X.env)).all (fun x => !x.1) && (backToKw cpos (keywordEach [] X.env)).all (fun x => x.1.isSome)
      && decide ((e :: es).length + ([] : List Keyword).length + (if ([] : List Keyword).isEmpty then 0 else 1) < 30)) = true := by rfl)
    (hline : (apos.endLine == cpos.line) = true := by rfl) (hs : starEach (e :: es) X.env = (false, eval e X.env) :: starEach es X.env := by rfl) (hplain : (backTo cpos (starEach es X.env)).any (·.1) = false := by rfl) :
    DE X G W (.Call (.Attribute o name apos) (e :: es) [] cpos) (mMt i p ms) :=
  peImp (pe_bm pa slot hty hm ho ha hbase hfew hline hs hplain) fun σ H Q h => tMt hp h
def appendP : D → List D → Option (D × D)
  | .lst xs, [y] => match decide (xs.length < sizeLine) with | true => some (.lst (xs ++ [y]), .non) | false => none
  | _, _ => none
theorem appendP_ok : PM G rAppend appendP := fun H S a d d' x ws ds Q ow rl e k => by
  cases d <;> rcases ds with _ | ⟨y, _ | ⟨_, _⟩⟩ <;> simp only [appendP, reduceCtorEq] at e
  rename_i xs
  split at e
  · rename_i hlt
    have hlt := of_decide_eq_true hlt
    cases e
    obtain ⟨vs, h1, h2, h3⟩ := ow.2
    cases rl with
    | cons r0 r1 =>
      cases r1
      refine ⟨a, vs, _, rfl, rfl, h1, by rw [h3.length]; exact hlt, k _ _ ⟨_, upd_same, ?_, (h3.append (.cons r0 .nil)).mono (own_grow ow)⟩ .non⟩
      rw [List.length_append, h3.length]; exact hlt
  · cases e
def extendP : D → List D → Option (D × D)
  | .lst xs, [.lst ys] => match decide (xs.length + ys.length ≤ sizeLine) with | true => some (.lst (xs ++ ys), .non) | false => none
  | _, _ => none
theorem extendP_ok : PM G rExtend extendP := fun H S a d d' x ws ds Q ow rl e k => by
  cases d <;> rcases ds with _ | ⟨y, _ | ⟨_, _⟩⟩ <;> (try cases y) <;> simp only [extendP, reduceCtorEq] at e
  rename_i xs ys
  split at e
  · rename_i hlt
    have hlt := of_decide_eq_true hlt
    cases e
    obtain ⟨vs, h1, h2, h3⟩ := ow.2
    cases rl with
    | cons r0 r1 =>
      cases r1
      cases r0 with
      | lst s0 hH hl r2 =>
        refine ⟨a, _, vs, _, rfl, rfl, h1, hH, by rw [h3.length, r2.length]; exact hlt, k _ _ ⟨_, upd_same, ?_, (h3.append r2).mono (own_grow ow)⟩ .non⟩
        rw [List.length_append, h3.length, r2.length]; exact hlt
  · cases e
def popAtP : D → List D → Option (D × D)
  | .lst xs, [.int i] => match decide (-(2 ^ 63) ≤ i) && decide (i < 2 ^ 63) with
    | true => match seqIndex? i xs.length with
      | some k => (xs[k]?).map fun y => (.lst (xs.eraseIdx k), y)
      | none => none
    | false => none
  | _, _ => none
theorem popAtP_ok : PM G rPopAt popAtP := fun H S a d d' x ws ds Q ow rl e k => by
  cases d <;> rcases ds with _ | ⟨y, _ | ⟨_, _⟩⟩ <;> (try cases y) <;> simp only [popAtP, reduceCtorEq] at e
  rename_i xs i
  split at e
  · rename_i hc
    simp only [Bool.and_eq_true, decide_eq_true_eq] at hc
    obtain ⟨vs, h1, h2, h3⟩ := ow.2
    cases q : seqIndex? i xs.length with
    | none => simp [q] at e
    | some j =>
      cases q2 : xs[j]? with
      | none => simp [q, q2] at e
      | some y =>
        simp [q, q2] at e
        obtain ⟨rfl, rfl⟩ := e
        cases rl with
        | cons r0 r1 =>
          cases r1; cases r0
          obtain ⟨v, k1, k2⟩ := h3.get q2
          refine ⟨a, vs, i, j, v, rfl, rfl, h1, hc.1, hc.2, by rw [h3.length]; exact q, k1, k _ _ ⟨_, upd_same, ?_, (h3.erase j).mono (own_grow ow)⟩ (k2.mono (own_grow ow))⟩
          exact Nat.le_trans (List.length_eraseIdx_le _ _) h2
  · cases e
theorem de_mt0 {i : Nat} {o : Expr} {id : String} {name : Str} {apos cpos : Pos} {r : V → List V → Hp → VK → Prop} {p : D → List D → Option (D × D)} (hr : ∀ (te : TE), (∀ σ H Q, (te σ H fun x H1 => tyV X.K "list" x H1 ∧ r x [] H1 Q) → tBM0 X.K "list" r te σ H Q)) (hpe : PE X (.Call (.Attribute o name apos) [] [] cpos) (tBM0 X.K "list" r (tVar i))) (hp : PM G r p) : DE X G W (.Call (.Attribute o name apos) [] [] cpos) (mMt i p []) :=
  peImp hpe fun σ H Q h => by
    obtain ⟨v, hv, ty, q⟩ := tMt (K := X.K) hp h
    obtain ⟨g, env, S, P, I, q⟩ := q
    exact ⟨v, hv, ty, q [] H S Grow.rfl' I .nil rfl⟩
def popP : D → List D → Option (D × D)
  | .lst xs, [] => (xs[xs.length - 1]?).map fun y => (.lst xs.dropLast, y)
  | _, _ => none
theorem RepL.dropLast {vs : List V} {ds : List D} (h : RepL G H S vs ds) : RepL G H S vs.dropLast ds.dropLast := by
  rw [List.dropLast_eq_take, List.dropLast_eq_take, h.length]; exact h.take _
theorem popP_ok : PM G rPop popP := fun H S a d d' x ws ds Q ow rl e k => by
  cases d <;> cases ds <;> simp only [popP, reduceCtorEq] at e
  rename_i xs
  cases q : xs[xs.length - 1]? with
  | none => simp [q] at e
  | some y =>
    simp [q] at e
    obtain ⟨rfl, rfl⟩ := e
    obtain ⟨vs, h1, h2, h3⟩ := ow.2
    cases rl
    obtain ⟨v, k1, k2⟩ := h3.get q
    refine ⟨a, vs, v, rfl, rfl, h1, by rw [h3.length]; exact k1, k _ _ ⟨_, upd_same, ?_, h3.dropLast.mono (own_grow ow)⟩ (k2.mono (own_grow ow))⟩
    rw [List.length_dropLast]; omega

/-! ### x[i] = e -/
theorem psetOr {t t' : TSet} (h : PSet X t) (h' : PSet X t') : PSet X (fun o i v H Q => t o i v H Q ∨ t' o i v H Q) := fun pins s σ H o i v ov iv u Q I r1 r2 r3 q => q.elim (h pins s σ H o i v ov iv u Q I r1 r2 r3) (h' pins s σ H o i v ov iv u Q I r1 r2 r3)
theorem set_dict (hu : X.A.units + 1 < cLine) : PSet X (fun o i v H Q => ∃ a H4, o = .ref a ∧ DPut H a i v H4 ∧ Q H4) := fun pins s σ H o i v ov iv u Q I r1 r2 r3 ⟨a, H4, e, q, k⟩ => by
  subst e
  obtain rfl : ov = Value.ref a := r1
  exact d_setItem hu I q r2 r3 fun s' I' => ⟨H4, I', k⟩
def setP (y v : D) : D → Option D
  | .lst xs => match y with
    | .int k => (ixN xs.length k).map fun j => .lst (xs.set j v)
    | _ => none
  | .dct kvs => match keyD y with
    | some k => match decide (kvs.length < sizeLine) with | true => some (.dct (putD kvs k v)) | false => none
    | none => none
  | _ => none
theorem RepK.put {k : Key} {y : D} (hk : keyOk k) (r : Rep G H S v y) : ∀ {vs : List (Key × V)} {ds : List (Key × D)}, RepK G H S vs ds → RepK G H S (putK vs k v) (putD ds k y) := fun {vs ds} h => by
  have any : ∀ {vs : List (Key × V)} {ds : List (Key × D)}, RepK G H S vs ds → (vs.any fun kv => decide (kv.1 = k)) = (ds.any fun kv => decide (kv.1 = k)) := by
    intro vs ds h
    induction vs generalizing ds with
    | nil => cases h; rfl
    | cons p vs ih =>
      cases h with
      | cons k' r' rs => rw [List.any_cons, List.any_cons, ih rs]
  have mp : ∀ {vs : List (Key × V)} {ds : List (Key × D)}, RepK G H S vs ds → RepK G H S (vs.map fun kv => if kv.1 = k then (kv.1, v) else kv) (ds.map fun kv => if kv.1 = k then (kv.1, y) else kv) := by
    intro vs ds h
    induction vs generalizing ds with
    | nil => cases h; exact .nil
    | cons p vs ih =>
      cases h with
      | @cons k0 v0 d0 _ _ k' r' rs =>
        rw [List.map_cons, List.map_cons]
        by_cases e : k0 = k
        · rw [if_pos e, if_pos e]
          exact .cons (e ▸ hk) r (ih rs)
        · rw [if_neg e, if_neg e]
          exact .cons k' r' (ih rs)
  have ap : ∀ {vs : List (Key × V)} {ds : List (Key × D)}, RepK G H S vs ds → RepK G H S (vs ++ [(k, v)]) (ds ++ [(k, y)]) := by
    intro vs ds h
    induction vs generalizing ds with
    | nil => cases h; exact .cons hk r .nil
    | cons p vs ih =>
      cases h with
      | cons k' r' rs => exact .cons k' r' (ih rs)
  unfold putK putD
  rw [any h]
  split
  · exact mp h
  · exact ap h
def mSub (i : Nat) (mk : ME) (mv : ME) : MS := bindS mv fun d _ env => match env[i]? with
  | some (some _) => bindS mk (fun y _ => updE i (setP y d) .nx) env
  | _ => .bad
theorem ds_sub {i : Nat} {ob ix : Expr} {mk : ME} {pos' : Pos} (hu : X.A.units + 1 < cLine) (hob : PE X ob (tVar i)) (hi : DE X G W ix mk) (hv : DE X G W e m)
    (ha : ∀ v, assign (.Subscript ob ix pos') X.env v = (do
      let ov ← holding [v] (eval ob X.env)
      let iv ← holding [v, ov] (eval ix X.env)
      standAt pos'
      holding [v, ov, iv] (setItem ov iv v)
      release [v, ov, iv] []) := by intro _; rfl)
    (hs : swapsWithSole [.Subscript ob ix pos'] e pos.line X.env = pure false := by rfl) (hw : swappedStores [.Subscript ob ix pos'] e X.env = pure none := by rfl)
    (h1 : (assignEach [.Subscript ob ix pos'] X.env).map (·.2) = [assign (.Subscript ob ix pos') X.env] := by rfl) : DS X G W (.Assign [.Subscript ob ix pos'] e pos) (mSub i mk m) :=
  psImp (ps_asg hv (pg_sub hob hi (psetOr set_list (set_dict hu)) ha) hs hw h1) fun Z σ H ⟨g, env, S, I, h⟩ => bindS_ok I h fun d o env1 v H1 S1 gr hv h => by
    obtain ⟨S2, g2, I2, r2⟩ := hv.frz
    have h := h.mono g2
    cases q : env1[i]? with
    | none => simp only [q] at h; exact h.elim
    | some r =>
      cases r with
      | none => simp only [q] at h; exact h.elim
      | some dt =>
        simp only [q] at h
        obtain ⟨u, hu⟩ : ∃ u, σ[i]? = some (some u) := by
          obtain ⟨d0, t0⟩ := dt
          by_cases ht : t0 = .s
          · subst ht; obtain ⟨u, k1, _⟩ := I2.shr i d0 q; exact ⟨u, k1⟩
          · obtain ⟨b, k1, _⟩ := I2.own i d0 t0 ht q; exact ⟨_, k1⟩
        refine ⟨u, hu, bindS_ok I2 h fun y o2 env3 w H3 S3 g3 hw h => ?_⟩
        obtain ⟨S4, g4, I4, r4⟩ := hw.frz
        obtain ⟨d0, t, d', a, k1, k2, k3, k4, k5, k⟩ := updE_ok I4 (h.mono g4)
        rw [hu] at k4; injection k4 with k4; injection k4 with k4; subst k4
        have rv := r2.mono (g3.trans g4)
        cases d0 with
        | lst xs =>
          obtain ⟨vs, q1, q2, q3⟩ := k5.2
          cases y with
          | int j =>
            cases r4
            simp only [setP] at k3
            cases q4 : ixN xs.length j with
            | none => simp [q4] at k3
            | some jj =>
              simp [q4] at k3; subst k3
              exact .inl ⟨a, vs, j, jj, rfl, rfl, q1, by rw [q3.length]; exact q4, k _ ⟨_, upd_same, by rw [List.length_set]; exact q2, (q3.set rv jj).mono (own_grow k5)⟩⟩
          | _ => simp [setP] at k3
        | dct kvs =>
          obtain ⟨vs, q1, q2, q3⟩ := k5.2
          simp only [setP] at k3
          cases q4 : keyD y with
          | none => simp [q4] at k3
          | some key =>
            cases q5 : decide (kvs.length < sizeLine) with
            | false => simp [q4, q5] at k3
            | true =>
              simp [q4, q5] at k3; subst k3
              have hlt := of_decide_eq_true q5
              obtain ⟨rfl, hk⟩ := keyD_ok q4 (.inl r4)
              refine .inr ⟨a, _, rfl, DPut.k q1 (by rw [q3.length]; exact hlt), k _ ⟨_, upd_same, ?_, (q3.put hk rv).mono (own_grow k5)⟩⟩
              have := length_putK vs key v
              have := q3.length
              omega
        | _ => simp [setP] at k3

/-! ### sorted texts -/
def sLe (x y : Str) : Bool := !Spec.ltCps y.cps.toList x.cps.toList
def sIns (x : Str) : List Str → List Str
  | [] => [x]
  | y :: r => match sLe x y with
    | true => x :: y :: r
    | false => y :: sIns x r
def sSort : List Str → List Str
  | [] => []
  | x :: r => sIns x (sSort r)
end
end DL

set_option Elab.async false
set_option linter.all false
set_option maxRecDepth 100000
set_option maxHeartbeats 1000000
/-! DL13: sorted texts, slices, join, isinstance, dict displays. -/
namespace DL
open PySem L2
/-! ### sorted texts -/
theorem cps_inj {x y : Str} (h : x.cps.toList = y.cps.toList) : x = y := by
  cases x; cases y; congr; exact Array.toList_inj.mp h
theorem sLe_iff {x y : Str} : sLe x y = true ↔ ¬ y.cps.toList < x.cps.toList := by
  unfold sLe
  rw [PyProof.Rows.ltCps_eq, Bool.not_eq_true', decide_eq_false_iff_not]
theorem sLe_total (x y : Str) (h : sLe x y = false) : sLe y x = true := by
  rw [sLe_iff]
  have : ¬ sLe x y = true := by rw [h]; simp
  rw [sLe_iff, Classical.not_not] at this
  exact fun z => List.lt_irrefl _ (List.lt_trans this z)
theorem sLe_trans {x y z : Str} (h1 : sLe x y = true) (h2 : sLe y z = true) : sLe x z = true := by
  rw [sLe_iff] at *
  have h1 := List.not_lt.mp h1
  have h2 := List.not_lt.mp h2
  exact List.not_lt.mpr (List.le_trans h1 h2)
theorem sLe_anti {x y : Str} (h1 : sLe x y = true) (h2 : sLe y x = true) : x = y := by
  rw [sLe_iff] at *
  exact cps_inj (List.le_antisymm (List.not_lt.mp h1) (List.not_lt.mp h2))
theorem sIns_perm (x : Str) : ∀ l : List Str, (sIns x l).Perm (x :: l)
  | [] => .refl _
  | y :: r => by
    unfold sIns
    split
    · exact .refl _
    · exact ((sIns_perm x r).cons y).trans (.swap _ _ _)
theorem sSort_perm : ∀ l : List Str, (sSort l).Perm l
  | [] => .refl _
  | x :: r => (sIns_perm x _).trans ((sSort_perm r).cons x)
theorem sIns_sorted (x : Str) : ∀ l : List Str, l.Pairwise (fun a b => sLe a b = true) → (sIns x l).Pairwise (fun a b => sLe a b = true)
  | [], _ => List.pairwise_singleton _ _
  | y :: r, h => by
    have h' := List.pairwise_cons.mp h
    unfold sIns
    split
    · rename_i hle
      refine List.pairwise_cons.mpr ⟨fun z hz => ?_, h⟩
      rcases List.mem_cons.mp hz with rfl | hz
      · exact hle
      · exact sLe_trans hle (h'.1 z hz)
    · rename_i hle
      refine List.pairwise_cons.mpr ⟨fun z hz => ?_, sIns_sorted x r h'.2⟩
      rcases List.mem_cons.mp ((sIns_perm x r).mem_iff.mp hz) with rfl | hz
      · exact sLe_total _ _ hle
      · exact h'.1 z hz
theorem sSort_sorted : ∀ l : List Str, (sSort l).Pairwise (fun a b => sLe a b = true)
  | [] => .nil
  | x :: r => sIns_sorted x _ (sSort_sorted r)
theorem sorted_pair : ∀ (l : List Str), PyProof.Rows.sortedS l = true → l.Pairwise (fun a b => sLe a b = true) := by
  have ris : ∀ (l : List Str) (p : Str), PyProof.Rows.risingS p l = true → (∀ z ∈ l, sLe p z = true) ∧ l.Pairwise (fun a b => sLe a b = true) := by
    intro l
    induction l with
    | nil => intro p _; exact ⟨fun _ h => (nomatch h), .nil⟩
    | cons x r ih =>
      intro p h
      unfold PyProof.Rows.risingS at h
      obtain ⟨h1, h2⟩ := Bool.and_eq_true_iff.mp h
      obtain ⟨k1, k2⟩ := ih x h2
      have hx : sLe p x = true := h1
      refine ⟨fun z hz => ?_, List.pairwise_cons.mpr ⟨k1, k2⟩⟩
      rcases List.mem_cons.mp hz with rfl | hz
      · exact hx
      · exact sLe_trans hx (k1 z hz)
  intro l h
  cases l with
  | nil => exact .nil
  | cons x r =>
    obtain ⟨k1, k2⟩ := ris r x h
    exact List.pairwise_cons.mpr ⟨k1, k2⟩
theorem sort_uniq {l ys : List Str} (p : ys.Perm l) (h : PyProof.Rows.sortedS ys = true) : ys = sSort l :=
  List.Perm.eq_of_pairwise (fun a b _ _ => sLe_anti) (sorted_pair ys h) (sSort_sorted l) (p.trans (sSort_perm l).symm)
section
variable {X : Cx} {G : Ctx} {W : WX} {g : Gh} {σ : St} {H H1 H' : Hp} {env env1 : EV} {S S1 : Sset} {P : List (Addr × D)} {Q : VK} {Z : Ends} {v w : V} {d d' : D} {o : Bool} {e : Expr} {es : List Expr} {m : ME} {ms : List ME} {pos p : Pos} {a : Addr} {x : Str}
def sortP : D → RP
  | .lst xs => match strsD xs with
    | some ss => match decide (ss.length < 64) with
      | true => some (.lst ((sSort ss).map D.str), true)
      | false => none
    | none => none
  | _ => none
theorem sortP_ok {K : PySem.W.Frag} : P1 G (fun v H Q => rSortedS K [v] H Q) sortP := fun H S v x d o Q hS rx e k => by
  cases x <;> simp only [sortP, reduceCtorEq] at e
  rename_i xs
  cases q : strsD xs with
  | none => simp [q] at e
  | some ss =>
    cases q2 : decide (ss.length < 64) with
    | false => simp [q, q2] at e
    | true =>
      simp [q, q2] at e
      obtain ⟨rfl, rfl⟩ := e
      obtain ⟨a, vs, rfl, h1, h2, h3⟩ := rx.lst
      obtain ⟨ev, hs⟩ := strs_rep h3 q
      subst ev
      have h64 := of_decide_eq_true q2
      refine ⟨a, ss, rfl, SqL.of h1, h64, fun ys p hp hs' hpn => ?_⟩
      have := sort_uniq hp hs'
      subst this
      exact k _ _ (New.lst hS hpn (rep_strs fun x hx => hs x ((sSort_perm ss).mem_iff.mp hx)) (by rw [List.length_map, (sSort_perm ss).length_eq]; exact small64 h64))

/-! ### slices -/
def cutD (xs : List D) (lo hi : Option Int) : List D := (xs.drop (HT.sIx xs.length 0 lo)).take (HT.sIx xs.length xs.length hi - HT.sIx xs.length 0 lo)
def cutI (xs : List Int) (lo hi : Option Int) : List Int := (xs.drop (HT.sIx xs.length 0 lo)).take (HT.sIx xs.length xs.length hi - HT.sIx xs.length 0 lo)
theorem cut_rep {vs : List V} {ds : List D} (h : RepL G H S vs ds) (lo hi : Option Int) : RepL G H S (cutV vs lo hi) (cutD ds lo hi) := by
  unfold cutV cutD
  rw [h.length]
  exact (h.drop _).take _
def sliceP (x : D) (lo hi : Option Int) : RP := match x with
  | .lst ds => some (.lst (cutD ds lo hi), true)
  | .scr ns => some (.lst ((cutI ns lo hi).map D.int), true)
  | .str z => some (.str (cutS z lo hi), false)
  | .tup ds => some (.tup (cutD ds lo hi), false)
  | _ => none
/-- the parts of a slice, from the left -/
def partE (m : Option ME) (k : Option Int → ME) : ME := match m with
  | none => k none
  | some m => bindE m fun y => match y with
    | .int i => k (some i)
    | _ => fun _ => .bad
def mSl (a : Opn) (lo hi : Option ME) : ME := bindO a fun pa => partE lo fun i => partE hi fun j env => match dat pa env with
  | some x => liftP (sliceP x i j) env
  | none => .bad
def rSlAll (K : PySem.W.Frag) : V → Option Int → Option Int → Hp → VK → Prop := fun x lo hi H Q => rSlL K x lo hi H Q ∨ (rSlA K x lo hi H Q ∨ rSlS x lo hi H Q)
theorem sl_all : SlR X (rSlAll X.K) := sl_list.or (sl_tupA.or sl_str)
theorem cutV_whole {vs : List V} {lo hi : Option Int} (h : HT.sIx vs.length 0 lo = 0 ∧ HT.sIx vs.length vs.length hi = vs.length) : cutV vs lo hi = vs := by
  unfold cutV; rw [h.1, h.2]; simp
theorem cutD_whole {ds : List D} {lo hi : Option Int} (h : HT.sIx ds.length 0 lo = 0 ∧ HT.sIx ds.length ds.length hi = ds.length) : cutD ds lo hi = ds := by
  unfold cutD; rw [h.1, h.2]; simp
theorem sOk_cut {z : Str} (h : sOk z) (lo hi : Option Int) : sOk (cutS z lo hi) := by
  constructor
  · show (List.toArray _).size ≤ sizeLine
    rw [List.size_toArray]
    refine Nat.le_trans (List.length_take_le' _ _) ?_
    rw [List.length_drop]
    have := h.1
    have e : z.length = z.cps.toList.length := by rw [Array.length_toList]; rfl
    omega
  · have := h.2
    unfold PyData.strOk at *
    show (List.toArray _).all _ = true
    rw [← Array.all_toList, List.all_eq_true] at *
    intro c hc
    exact this c (List.mem_of_mem_drop (List.mem_of_mem_take hc))
theorem sliceP_ok {K : PySem.W.Frag} (hK : G.K = K) {lo hi : Option Int} (hS : ∀ a, S a → ∃ u, H a = some u) (rx : RepB G H S v d) (e : sliceP d lo hi = some (d', o)) (k : ∀ v' H', New G H S v' H' d' o → Q v' H') : rSlAll K v lo hi H Q := by
  cases d <;> simp only [sliceP, reduceCtorEq, Option.some.injEq, Prod.mk.injEq] at e
  · obtain ⟨rfl, rfl⟩ := e
    obtain ⟨rfl, h⟩ := rx.str
    exact .inr (.inr ⟨_, rfl, h.1, k _ _ (New.same (.str (sOk_cut h _ _)))⟩)
  · obtain ⟨rfl, rfl⟩ := e
    obtain ⟨a, vs, rfl, h1, h2, h3⟩ := rx.tup hK
    refine .inr (.inl ⟨a, vs, rfl, h1, fun hw => ?_, fun hw p hp => ?_⟩)
    · rw [h3.length] at hw
      rw [cutD_whole hw] at k
      refine k _ _ (New.same ?_)
      rcases rx with h | ⟨_, _, h⟩
      · exact h
      · exact h.elim
    · exact k _ _ (New.tup hS hp (cut_rep h3 _ _) (Nat.le_trans (cutV_length _ _ _) h2))
  · obtain ⟨rfl, rfl⟩ := e
    obtain ⟨a, vs, rfl, h1, h2, h3⟩ := rx.lst
    exact .inl ⟨a, vs, rfl, SqL.of h1, fun p hp => k _ _ (New.lst hS hp (cut_rep h3 _ _) (Nat.le_trans (cutV_length _ _ _) h2))⟩
  · rename_i ns
    obtain ⟨rfl, rfl⟩ := e
    obtain ⟨a, rfl, h1, hl⟩ := rx.scr
    have e0 : cutV (ns.map V.int) lo hi = (cutI ns lo hi).map V.int := by
      unfold cutV cutI
      rw [List.length_map, ← List.map_drop, ← List.map_take]
    refine .inl ⟨a, _, rfl, scr_sq hK h1, fun p hp => ?_⟩
    rw [e0]
    refine k _ _ (New.lst hS hp (rep_ints _) ?_)
    rw [List.length_map]
    unfold cutI
    refine Nat.le_trans (List.length_take_le' _ _) ?_
    rw [List.length_drop]
    omega
/-- the parts' readings -/
def tOpt (G : Ctx) (W : WX) (m : Option ME) : TO := match m with
  | none => tNoPart
  | some m => tPart (trE G W m)
def DPO (X : Cx) (G : Ctx) (W : WX) (e : Option Expr) (m : Option ME) : Prop := PO X e (tOpt G W m)
theorem dpo_none : DPO X G W none none := po_none
theorem dpo_some (h : DE X G W e m) : DPO X G W (some e) (some m) := po_some h
theorem partE_ok {m : Option ME} {k : Option Int → ME} {R : Option Int → Hp → Prop} (I : SI G g σ H env S P) (h : PostE G W g σ H S P Q (partE m k env))
    (hk : ∀ i env1 H1 S1, Grow S H S1 H1 → SI G g σ H1 env1 S1 P → PostE G W g σ H1 S1 P Q (k i env1) → R i H1) : tOpt G W m σ H R := by
  cases m with
  | none => exact hk none env H S Grow.rfl' I h
  | some m =>
    refine bindE_ok (R := fun x H1 => ∃ i, x = V.int i ∧ R (some i) H1) I h fun y env1 v H1 S1 gr I1 r h => ?_
    cases y with
    | int i => cases r; exact ⟨i, rfl, hk (some i) env1 H1 S1 gr I1 h⟩
    | _ => exact h.elim
theorem de_slice {b : Expr} {oa : Opn} {lo hi : Option Expr} {ml mh : Option ME} {p2 : Pos} (hK : G.K = X.K) (hb : DO X G W b oa) (hl : DPO X G W lo ml) (hh : DPO X G W hi mh) : DE X G W (.Subscript b (.Slice lo hi none p2) pos) (mSl oa ml mh) :=
  peImp (pe_slice sl_all hb.pe hl hh) fun σ H Q ⟨g, env, S, P, I, h⟩ => bindO_ok I h fun pa env1 v H1 S1 g1 I1 ha h =>
    partE_ok I1 h fun i env2 H2 S2 g2 I2 h => partE_ok I2 h fun j env3 H3 S3 g3 I3 h => by
      cases ed : dat pa env3 with
      | none => simp only [ed] at h; exact h.elim
      | some d =>
        simp only [ed] at h
        obtain ⟨d', o, e, k⟩ := liftP_ok I3 h
        exact sliceP_ok hK I3.shH (dat_ok I3 (ha.mono (g2.trans g3)) ed) e k
/-- x[::-1] of a list -/
def revP : D → RP
  | .lst ds => some (.lst ds.reverse, true)
  | _ => none
theorem de_rev {b : Expr} {oa : Opn} {k : Nat} {p1 p2 p3 : Pos} (hb : DO X G W b oa) : DE X G W (.Subscript b (.Slice none none (some (.UnaryOp .USub (.Constant (.int 1) k p1) p2)) p3) pos) (mO1 revP oa) :=
  peImp (pe_revL hb.pe) fun σ H Q h => tO1 (r := fun x H1 Q => ∃ a xs, x = .ref a ∧ SqL X.K H1 a xs ∧ ∀ p, H1 p = none → Q (.ref p) (L2.upd H1 p (.lst xs.reverse))) (fun H S v x d o Q hS rx e k => by
    cases x <;> simp only [revP, reduceCtorEq, Option.some.injEq, Prod.mk.injEq] at e
    obtain ⟨rfl, rfl⟩ := e
    obtain ⟨a, vs, rfl, h1, h2, h3⟩ := rx.lst
    exact ⟨a, vs, rfl, SqL.of h1, fun p hp => k _ _ (New.lst hS hp h3.rev (by rw [List.length_reverse]; exact h2))⟩) h
/-! ### sep.join(xs) -/
def joinP : D → D → RP
  | .str z, .lst xs => match strsD xs with
    | some ss => match decide ((ss.map (·.length)).sum + ss.length * z.length ≤ 16777216) with
      | true => some (.str (Txt.join z ss), false)
      | false => none
    | none => none
  | _, _ => none
def mJoin (a : ME) (b : Opn) : ME := bindE a fun x => match x with
  | .str z => bindO b fun pb env => match dat pb env with
    | some y => liftP (joinP (.str z) y) env
    | none => .bad
  | _ => fun _ => .bad
theorem sOk_join {z : Str} {ss : List Str} (hz : sOk z) (hs : ∀ x ∈ ss, sOk x) (h : (ss.map (·.length)).sum + ss.length * z.length ≤ 16777216) : sOk (Txt.join z ss) := by
  rw [show Txt.join z ss = Str.join z ss from TL.join_eq z ss]
  refine ⟨Nat.le_trans (PySem.StrLaws.join_length_le z ss) (by rw [sizeLine_eq]; exact h), ?_⟩
  have app : ∀ x y : Str, PyData.strOk x = true → PyData.strOk y = true → PyData.strOk (x ++ y) = true := fun x y h1 h2 => by
    unfold PyData.strOk at *
    show ((x.cps ++ y.cps).all fun c => decide (c < 0x110000)) = true
    rw [Array.all_append, h1, h2]; rfl
  clear h
  induction ss with
  | nil => exact (by decide +kernel : PyData.strOk Str.empty = true)
  | cons x r ih =>
    cases r with
    | nil => exact (hs x List.mem_cons_self).2
    | cons y r =>
      have := ih fun u hu => hs u (List.mem_cons_of_mem _ hu)
      show PyData.strOk (x ++ z ++ Str.join z (y :: r)) = true
      exact app _ _ (app _ _ (hs x List.mem_cons_self).2 hz.2) this
theorem de_join {ob : Expr} {apos : Pos} {ma : ME} {o2 : Opn} (ho : DE X G W ob ma) (he : DO X G W e o2) (hs : starEach [e] X.env = [(false, eval e X.env)] := by rfl) (hbase : attributeBase ob "join" X.env (eval ob X.env) = eval ob X.env := by rfl) (hline : (apos.endLine == pos.line) = true := by rfl) :
    DE X G W (.Call (.Attribute ob "join" apos) [e] [] pos) (mJoin ma o2) :=
  peImp (pe_join ho he.pe hs hbase hline) fun σ H Q ⟨g, env, S, P, I, h⟩ => bindE_ok I h fun x env1 v H1 S1 g1 I1 rx h => by
    cases x with
    | str z =>
      obtain ⟨rfl, hz⟩ := (Rep.b rx).str
      refine ⟨⟨z, rfl⟩, bindO_ok I1 h fun pb env2 w H2 S2 g2 I2 hb h => ?_⟩
      cases ed : dat pb env2 with
      | none => simp only [ed] at h; exact h.elim
      | some y =>
        simp only [ed] at h
        obtain ⟨d', o, e, k⟩ := liftP_ok I2 h
        have ry := dat_ok I2 hb ed
        cases y <;> simp only [joinP, reduceCtorEq] at e
        rename_i xs
        cases q : strsD xs with
        | none => simp [q] at e
        | some ss =>
          cases q2 : decide ((ss.map (·.length)).sum + ss.length * z.length ≤ 16777216) with
          | false => simp [q, q2] at e
          | true =>
            simp [q, q2] at e
            obtain ⟨rfl, rfl⟩ := e
            obtain ⟨a, vs, rfl, h1, h2, h3⟩ := ry.lst
            obtain ⟨ev, hs⟩ := strs_rep h3 q
            subst ev
            have hl := of_decide_eq_true q2
            exact ⟨z, a, ss, rfl, rfl, .inl (SqL.of h1), hl, k _ _ (New.same (.str (sOk_join hz hs hl)))⟩
    | _ => exact h.elim
end
end DL

set_option Elab.async false
set_option linter.all false
set_option maxRecDepth 100000
set_option maxHeartbeats 1000000
/-! DL14: isinstance, dict displays, dict.get, setdefault-free dicts. -/
namespace DL
open PySem L2
/-- a class that is asked for -/
inductive Cl where
  | str | int | bool | list | tuple | dict | own (c : Nat)
  deriving DecidableEq
/-- is it one; anc: the classes that stand above one, itself among them -/
def isA (anc : Nat → List Nat) : Cl → D → Bool
  | .str, .str _ => true
  | .int, .int _ => true
  | .int, .bl _ => true
  | .bool, .bl _ => true
  | .list, .lst _ => true
  | .list, .scr _ => true
  | .tuple, .tup _ => true
  | .dict, .dct _ => true
  | .dict, .dtt _ => true
  | .own c, .obj c' _ => (anc c').contains c
  | _, _ => false
def tyVal (G : Ctx) : D → Option Value
  | .non => some (.type "NoneType") | .bl _ => some (.type "bool") | .int _ => some (.type "int") | .str _ => some (.type "str")
  | .tup _ => some (.type "tuple") | .lst _ => some (.type "list") | .scr _ => some (.type "list") | .dct _ => some (.type "dict") | .dtt _ => some (.type "dict")
  | .obj c _ => some (.ref (G.C c))
  | _ => none
def clVal (G : Ctx) : Cl → Value
  | .str => .type "str" | .int => .type "int" | .bool => .type "bool" | .list => .type "list" | .tuple => .type "tuple" | .dict => .type "dict"
  | .own c => .ref (G.C c)
def clV (G : Ctx) : Cl → V
  | .str => .ty "str" | .int => .ty "int" | .bool => .ty "bool" | .list => .ty "list" | .tuple => .ty "tuple" | .dict => .ty "dict"
  | .own c => .ref (G.C c)
theorem clV_ok (G : Ctx) (c : Cl) : ClsV (clV G c) (clVal G c) := by cases c <;> constructor
/-- which classes may be asked of an instance (oks: of which ones) -/
def okObj (oks : List Nat) : D → Bool
  | .obj c _ => oks.contains c
  | .exc _ _ => false
  | .thk _ _ _ => false
  | _ => true
/-- what the written part says of the class -/
structure InsK (K : PySem.W.Frag) (C : Addr) : Prop where
  cl : Cls K C
  ha : PySem.W.findIn K (.ref C) "__class__" = some (some (.builtin "object.__class__"))
  hn : PySem.W.specialIn K (.builtin "object.__class__") "__get__" = some (some (.builtin "getset_descriptor.__get__"))
  ht : PySem.W.takesIn K (.builtin "object.__class__") = some true
  hm : PySem.W.mroIn K C (.type "object") = some true
def KitOk (K : PySem.W.Frag) (G : Ctx) (anc : Nat → List Nat) (oks : List Nat) (cl : Cl) : Prop := ∀ d t, okObj oks d = true → tyVal G d = some t → PySem.W.kitOne K t (clVal G cl) = some (isA anc cl d)
def bltCl : Cl → Bool
  | .own _ => false
  | _ => true
/-- a built-in class: the own classes' rows alone are left to show -/
theorem kit_blt {K : PySem.W.Frag} {G : Ctx} {anc : Nat → List Nat} {oks : List Nat} {cl : Cl} (hb : bltCl cl = true) (h : ∀ c, oks.contains c = true → PySem.W.kitOne K (.ref (G.C c)) (clVal G cl) = some false) : KitOk K G anc oks cl := fun d t ho ht => by
  cases cl with
  | own c => cases hb
  | str => cases d <;> simp only [tyVal, Option.some.injEq, reduceCtorEq] at ht <;> subst ht <;> first | exact h _ ho | exact kit_ty (r := true) (by decide +kernel) | exact kit_ty (r := false) (by decide +kernel)
  | int => cases d <;> simp only [tyVal, Option.some.injEq, reduceCtorEq] at ht <;> subst ht <;> first | exact h _ ho | exact kit_ty (r := true) (by decide +kernel) | exact kit_ty (r := false) (by decide +kernel)
  | bool => cases d <;> simp only [tyVal, Option.some.injEq, reduceCtorEq] at ht <;> subst ht <;> first | exact h _ ho | exact kit_ty (r := true) (by decide +kernel) | exact kit_ty (r := false) (by decide +kernel)
  | list => cases d <;> simp only [tyVal, Option.some.injEq, reduceCtorEq] at ht <;> subst ht <;> first | exact h _ ho | exact kit_ty (r := true) (by decide +kernel) | exact kit_ty (r := false) (by decide +kernel)
  | tuple => cases d <;> simp only [tyVal, Option.some.injEq, reduceCtorEq] at ht <;> subst ht <;> first | exact h _ ho | exact kit_ty (r := true) (by decide +kernel) | exact kit_ty (r := false) (by decide +kernel)
  | dict => cases d <;> simp only [tyVal, Option.some.injEq, reduceCtorEq] at ht <;> subst ht <;> first | exact h _ ho | exact kit_ty (r := true) (by decide +kernel) | exact kit_ty (r := false) (by decide +kernel)
/-- an own class -/
theorem kit_own {K : PySem.W.Frag} {G : Ctx} {anc : Nat → List Nat} {oks : List Nat} {c : Nat} (h : ∀ c', oks.contains c' = true → PySem.W.kitOne K (.ref (G.C c')) (.ref (G.C c)) = some ((anc c').contains c))
    (h2 : ∀ T, T ∈ ["NoneType", "bool", "int", "str", "tuple", "list", "dict"] → PySem.W.kitOne K (.type T) (.ref (G.C c)) = some false) : KitOk K G anc oks (.own c) := fun d t ho ht => by
  cases d <;> simp only [tyVal, Option.some.injEq, reduceCtorEq] at ht <;> subst ht <;> first | exact h _ ho | exact h2 _ (by decide)
section
variable {X : Cx} {G : Ctx} {W : WX} {g : Gh} {σ : St} {H H1 H' : Hp} {env env1 : EV} {S S1 : Sset} {P : List (Addr × D)} {Q : VK} {Z : Ends} {v w : V} {d d' : D} {o : Bool} {e e2 : Expr} {es : List Expr} {m : ME} {ms : List ME} {pos p : Pos} {a : Addr} {x : Str}
theorem tyX_of {K : PySem.W.Frag} {oks : List Nat} {t : Value} (hK : G.K = K) (hi : ∀ c, oks.contains c = true → InsK K (G.C c)) (ho : okObj oks d = true) (ht : tyVal G d = some t) (r : RepB G H S v d) : TyX K H v t := by
  cases d <;> simp only [tyVal, Option.some.injEq, reduceCtorEq] at ht <;> (try subst ht)
  · rw [r.non]; exact .base .non
  · rw [r.bl]; exact .base (.bl _)
  · rw [r.int]; exact .base (.int _)
  · rw [r.str.1]; exact .base (.str _)
  · obtain ⟨a, vs, rfl, h1, _, _⟩ := r.tup hK
    rcases h1 with (h1 | ⟨ob, h1⟩) | ⟨ob, _, _, h1, h2, _⟩
    · exact .base (.tup h1)
    · exact .fTuple h1
    · exact .kTuple h1 h2
  · obtain ⟨a, vs, rfl, h1, _, _⟩ := r.lst
    exact .base (.lst h1)
  · obtain ⟨a, vs, rfl, h1, _, _⟩ := r.dct
    exact .base (.dK h1)
  · rcases r with r | ⟨a, rfl, vs, h1, _⟩
    · cases r with
      | dtt _ h1 => exact .base (.dT h1)
    · exact .base (.dT h1)
  · rename_i c ds
    obtain ⟨a, dx, vs, rfl, h1, _, _⟩ := r.obj
    have q := hi c ho
    exact .base (.ins h1 q.cl q.ha q.hn q.ht q.hm)
  · obtain ⟨a, rfl, h1, _⟩ := r.scr
    rcases h1 with ⟨ob, h1⟩ | ⟨o, its, n, k1, k2, _⟩
    · exact .base (.frz h1)
    · subst hK
      exact .kList k1 k2
def isiP (anc : Nat → List Nat) (oks : List Nat) (cls : List Cl) : D → RP := fun d => match okObj oks d with
  | true => some (.bl (cls.any fun c => isA anc c d), false)
  | false => none
theorem ty_some {oks : List Nat} (ho : okObj oks d = true) : ∃ t, tyVal G d = some t := by
  cases d <;> first | exact ⟨_, rfl⟩ | cases ho
theorem de_isi {anc : Nat → List Nat} {oks : List Nat} {cl : Cl} {oa : Opn} {px : Pos} (hK : G.K = X.K) (hi : ∀ c, oks.contains c = true → InsK X.K (G.C c)) (hk : KitOk X.K G anc oks cl) (hg : Gl X "isinstance") (hm : X.mg "isinstance" = none) (ha : DO X G W e oa) (hc : PE X e2 (tC (clV G cl)))
    (h1 : starEach (e :: e2 :: []) X.env = (false, eval e X.env) :: starEach [e2] X.env := by rfl) (h2 : starEach (e2 :: []) X.env = (false, eval e2 X.env) :: starEach [] X.env := by rfl) (hpl : (backTo pos (starEach [e2] X.env)).any (·.1) = false := by rfl) :
    DE X G W (.Call (.Name "isinstance" px) [e, e2] [] pos) (mO1 (isiP anc oks [cl]) oa) :=
  peImp (pe_callB call_isi hg hm (by decide +kernel) (pa_cons ha.pe (pa_cons hc pa_nil h2) h1) (by decide) (by decide) h1 hpl) fun σ H Q h => tO1 (r := fun v H Q => rIsi X.K [v, clV G cl] H Q) (fun H S v x d o Q hS rx e k => by
    unfold isiP at e
    cases q : okObj oks x with
    | false => rw [q] at e; cases e
    | true =>
      rw [q] at e
      obtain ⟨t, ht⟩ := ty_some (G := G) q
      injection e with e; injection e with e1 e2; subst e1; subst e2
      have hb := hk x t q ht
      refine ⟨v, clV G cl, t, clVal G cl, _, rfl, clV_ok G cl, tyX_of hK hi q ht rx, hb, ?_⟩
      have e0 : ([cl].any fun c => isA anc c x) = isA anc cl x := by simp
      rw [e0] at k
      exact k_bl k) h
/-- isinstance(x, (A, B)) -/
theorem de_isi2 {anc : Nat → List Nat} {oks : List Nat} {c1 c2 : Cl} {e3 : Expr} {oa : Opn} {px pt : Pos} {kt} (hK : G.K = X.K) (hi : ∀ c, oks.contains c = true → InsK X.K (G.C c)) (hk : KitOk X.K G anc oks c1) (hk2 : KitOk X.K G anc oks c2) (hg : Gl X "isinstance") (hm : X.mg "isinstance" = none) (ha : DO X G W e oa) (hc : PE X e2 (tC (clV G c1))) (hc2 : PE X e3 (tC (clV G c2)))
    (h1 : starEach (e :: .Tuple [e2, e3] kt pt :: []) X.env = (false, eval e X.env) :: starEach [.Tuple [e2, e3] kt pt] X.env := by rfl) (h2 : starEach (.Tuple [e2, e3] kt pt :: []) X.env = (false, eval (.Tuple [e2, e3] kt pt) X.env) :: starEach [] X.env := by rfl)
    (h3 : starEach (e2 :: e3 :: []) X.env = (false, eval e2 X.env) :: starEach [e3] X.env := by rfl) (h4 : starEach (e3 :: []) X.env = (false, eval e3 X.env) :: starEach [] X.env := by rfl)
    (hpl : (backTo pos (starEach [.Tuple [e2, e3] kt pt] X.env)).any (·.1) = false := by rfl) :
    DE X G W (.Call (.Name "isinstance" px) [e, .Tuple [e2, e3] kt pt] [] pos) (mO1 (isiP anc oks [c1, c2]) oa) :=
  peImp (pe_callB call_isiT hg hm (by decide +kernel) (pa_cons ha.pe (pa_cons (pe_tup (pa_cons hc (pa_cons hc2 pa_nil h4) h3)) pa_nil h2) h1) (by decide) (by decide) h1 hpl) fun σ H Q ⟨g, env, S, P, I, h⟩ => by
    show tO G W oa σ H fun v H1 => 2 ≤ sizeLine ∧ ∀ p, H1 p = none → rIsiT X.K [v, .ref p] (L2.upd H1 p (.tup [clV G c1, clV G c2])) Q
    refine bindO_ok I h fun pa env1 v H1 S1 g1 I1 ha h => ⟨by decide, fun p hp => ?_⟩
    have I2 := I1.ext (N := Nul) (H' := L2.upd H1 p (.tup [clV G c1, clV G c2])) (Ext.upd hp) fun _ h => h.elim
    rw [or1_nul] at I2
    have g2 : Grow S1 H1 S1 (L2.upd H1 p (.tup [clV G c1, clV G c2])) := grow_upd I1.shH hp
    cases ed : dat pa env1 with
    | none => simp only [ed] at h; exact h.elim
    | some x =>
      simp only [ed] at h
      obtain ⟨d, o, e, k⟩ := liftP_ok I2 (h.mono g2)
      unfold isiP at e
      cases q : okObj oks x with
      | false => rw [q] at e; cases e
      | true =>
        rw [q] at e
        obtain ⟨t, ht⟩ := ty_some (G := G) q
        injection e with e; injection e with e1 e2; subst e1; subst e2
        have b1 := hk x t q ht
        have b2 := hk2 x t q ht
        have kany : PySem.W.kitAny X.K t [clVal G c1, clVal G c2] = some ([c1, c2].any fun c => isA anc c x) := by
          cases z1 : isA anc c1 x <;> cases z2 : isA anc c2 x <;> rw [z1] at b1 <;> rw [z2] at b2 <;> simp [PySem.W.kitAny, b1, b2, z1, z2]
        exact ⟨v, p, _, t, [clVal G c1, clVal G c2], _, rfl, upd_same, .cons (clV_ok G c1) (.cons (clV_ok G c2) .nil), tyX_of hK hi q ht (dat_ok I2 (ha.mono g2) ed), kany, k_bl k⟩
end
end DL

set_option Elab.async false
set_option linter.all false
set_option maxRecDepth 100000
set_option maxHeartbeats 1000000
/-! DL15: own errors over ValueError whose __init__ says super().__init__(f); self.f = f: made, raised. -/
namespace DL
open PySem PySem.W PySem.Calls PyProof.Rows PySem.HandSPX
def xA (f : Str) (p1 p2 : Pos) : Arguments := { posonlyargs := [], args := [{ arg := "self", annotation := none, pos := p1 }, { arg := f, annotation := none, pos := p2 }], vararg := none, kwonlyargs := [], kw_defaults := [], kwarg := none, defaults := [] }
def xB (f : Str) (q1 q2 q3 q4 q5 q6 q7 q8 q9 q10 : Pos) : List Stmt :=
  [.Expr (.Call (.Attribute (.Call (.Name "super" q1) [] [] q2) "__init__" q3) [.Name f q4] [] q5) q6, .Assign [.Attribute (.Name "self" q7) f q8] (.Name f q9) q10]
structure XSc (sc : Scope) (f : Str) : Prop where
  kind : sc.kind = .function
  co : sc.isCoroutine = false
  gen : sc.isGenerator = false
  self : sc.names.lookup ("self" : Str) = some .local
  fld : sc.names.lookup f = some .local
  sup : sc.names.lookup ("super" : Str) = some .globalImplicit
  cls : sc.names.lookup ("__class__" : Str) = some .free
  nocell : ∀ y ∈ sc.names, y.2 ≠ .cell
  fd : (f == ("__debug__" : Str)) = false
  fs : (f == ("self" : Str)) = false
/-- what the written part says of an own error class C, of its __init__ at fI -/
structure ExT (prog : Program) (K : Frag) (mg : Str → Option Value) (C fI : Addr) (f : Str) : Prop where
  cls : ∃ nm q N bs bm sn sub ab col dd k0 k1 k2 k3 k5, K.lookup C = some (excClassObj nm q C N bs bm true sn sub ab col dd k0 k1 k2 k3 k5 "ValueError.__new__") ∧ refsVE bm = true
  sa : findIn K (.ref C) "__setattr__" = some (some (.builtin "object.__setattr__"))
  ga : findIn K (.ref C) "__getattribute__" = some (some (.builtin "BaseException.__getattribute__"))
  gg : findIn K (.ref C) "__getattr__" = some none
  noN : findIn K (.ref C) f = some none
  iC : findIn K (.ref C) "__init__" = some (some (.ref fI))
  tC : typeIn K (.ref fI) = some (.type "function")
  kC : keepIn K (.ref C) = true
  exC : subIn K (.ref C) (.type "BaseException") = some true
  tyC : typeIn K (.ref C) = some (.type "type")
  hdC : hasDictIn K C = true
  ve : subIn K (.ref C) (.type "ValueError") = some true
  su : ks_superIn K C C "__init__" = some (some (.builtin "ValueError.__init__"))
  mr : mroIn K C (.ref C) = some true
  op : nsIn K cStatics "thirdparty.any" = some none
  sp : mg "super" = none
  top : (prog.main.scope.names.lookup ("super" : Str)).isSome = false
  fn : ∃ (cc cda : Addr) (cl : Value) (cld : Option Addr) (csl : Array (Option Value)) (ccl : Value) (cdd : Option Addr) (vs : Array Value) (ccs : Array (Option Value)) (file : Str) (tf : Tok) (oc : Value) (od : Option Addr) (qual : Str) (doc pm : Value) (an : Option Addr) (ct : Value) (osl : Array (Option Value)) (sc : Scope) (p1 p2 q1 q2 q3 q4 q5 q6 q7 q8 q9 q10 : Pos),
    K.lookup cc = some ⟨cl, cld, .cell (some (.ref C)), csl⟩ ∧ K.lookup cda = some ⟨ccl, cdd, .fields vs, ccs⟩ ∧ vs[2]? = some (.str file tf) ∧ ((prog.main.file : Str) == file) = true ∧
    K.lookup fI = some ⟨oc, od, .func (ksFn "__init__" qual (xA f p1 p2) (xB f q1 q2 q3 q4 q5 q6 q7 q8 q9 q10) sc .none .none doc pm an (.ref cda) ct cc), osl⟩ ∧ codeIn K (.ref cda) qual = true ∧ XSc sc f ∧
    (∀ env : Env, ∃ pl : Sem Bool, eval (.Call (.Attribute (.Call (.Name "super" q1) [] [] q2) "__init__" q3) [.Name f q4] [] q5) env = (do
      let ov ← attributeBase (.Call (.Name "super" q1) [] [] q2) "__init__" env (eval (.Call (.Name "super" q1) [] [] q2) env)
      standAt q3.atName
      let (m, first) ← holding [ov] (getMethod ov "__init__" pl)
      callWith q5 m first (backTo q5 (starEach [.Name f q4] env)) [])) ∧
    ∀ (s : Shared) (a b : Value), BindsTo s (ksFn "__init__" qual (xA f p1 p2) (xB f q1 q2 q3 q4 q5 q6 q7 q8 q9 q10) sc .none .none doc pm an (.ref cda) ct cc) ⟨[a, b], []⟩ [("self", a), (f, b)]
theorem x_one (v : Value) : [v].length ≤ sizeLine := by
  rw [sizeLine_eq]
  exact (by decide : 1 ≤ 16777216)
theorem ldX {M : Model} {s : Shared} {qual : Str} {scope : Scope} {L a : Addr} {cd : Value} {cc : Addr} {m : Str → Option Value} {x : Str} {pos : Pos} {v : Value} {Q : Value → Shared → Prop} {A : Around} {E : Value → Shared → Prop} (hn : s.heap.Ns L m) (hv : m x = some v) (h : Q v s)
    (hk : scope.kind = .function) (hl : scope.names.lookup x = some .local) (hd : (x == ("__debug__" : Str)) = false) :
    wpAny M A (eval (.Name x pos) (ksEnv qual scope L a cd cc)) Q E s := wpAny_Name (wpAny_loadName_local (env := ksEnv qual scope L a cd cc) hk hl hn hv h) hd
structure XEnd (h h' : Heap) (x C dx t1 : Addr) (f : Str) (v : Value) : Prop where
  keep : ∀ b o, b ≠ x → h.get? b = some o → h'.get? b = some o
  obj : h'.get? x = some { cls := .ref C, dict := some dx, data := .fields #[.ref t1, .none, .none, .none, .bool false, .none] }
  dbig : h.objs.size ≤ dx
  dne : dx ≠ x
  ns : h'.Ns1 dx (fun y => if y = f then some v else none)
section
variable {prog : Program} {w : World} {A : Around} {E : Value → Shared → Prop} {R : Result → Shared → Prop} {s : Shared} {K : Frag} {mg mb : Str → Option Value} {C fI : Addr} {f : Str}
theorem kept_but {K : Frag} {h h' : Heap} {x : Addr} (X : K.In h) (hx : K.lookup x = none) (k : ∀ b o, b ≠ x → h.get? b = some o → h'.get? b = some o) : K.In h' := fun a o e =>
  k a o (fun z => by rw [z, hx] at e; cases e) (X a o e)
theorem x_init (T : ExT prog K mg C fI f) {x t0 : Addr} {v : Value} (X : K.In s.heap) (hg : s.heap.Ns mainGlobals mg) (hb : s.heap.Ns builtinsNs mb) (hmb : mb "super" = some (.type "super")) (hlim : s.heap.NoLimit) (hx : s.heap.get? x = some (excO C t0)) (hnx : K.lookup x = none) (hroom : A.depth < recursionLimit)
    (hq : ∀ h' tk dx t1, XEnd s.heap h' x C dx t1 f v → R (.ok (.ret .none)) { s with heap := h', toks := tk }) :
    codeAny (model prog w) A (.call (.ref fI) ⟨[.ref x, v], []⟩) R s := by
  obtain ⟨cc, cda, cl, cld, csl, ccl, cdd, vs, ccs, file, tf, oc, od, qual, doc, pm, an, ct, osl, sc, p1, p2, q1, q2, q3, q4, q5, q6, q7, q8, q9, q10, hcell, hcode, hvs, hfile, ho, hcd, Sc, hev, bd⟩ := T.fn
  obtain ⟨sk, sn0, sg, sco, smo⟩ := sc
  obtain rfl : sk = .function := Sc.kind
  obtain rfl : sg = false := Sc.gen
  obtain rfl : sco = false := Sc.co
  obtain ⟨nm, q, N, bs, bm, sn, sub, ab, col, dd, k0, k1, k2, k3, k5, hC, hbm⟩ := T.cls
  have hcl : clsIn K C = some { name := nm, bases := bs, mro := .ref C :: bm, ns := N, qualname := q, hasDict := true, slotNames := sn, subclasses := sub, abstract := ab, collection := col, hasDel := false } := by unfold clsIn; rw [hC] <;> rfl
  obtain ⟨hh, g, d, t, os⟩ := s
  refine ks_codeAny_call_defAt (fd := ksFn "__init__" qual (xA f p1 p2) (xB f q1 q2 q3 q4 q5 q6 q7 q8 q9 q10) ⟨.function, sn0, false, false, smo⟩ .none .none doc pm an (.ref cda) ct cc) (body := xB f q1 q2 q3 q4 q5 q6 q7 q8 q9 q10) (binds := [("self", .ref x), (f, v)]) hroom (X _ _ ho) rfl hlim (codeRec_of X hcd) rfl (bd _ _ _) Sc.nocell (fun y hy => ?_) (fun h₁ hns k₁ => ?_) Sc.co Sc.gen Sc.kind
  · rcases List.mem_cons.mp hy with rfl | hy
    · exact Sc.self
    · rcases List.mem_cons.mp hy with rfl | hy
      · exact Sc.fld
      · cases hy
  have X₁ : K.In h₁ := X.keeps k₁
  have hx₁ := k₁ _ _ hx
  have hC₁ := X₁ _ _ hC
  have hL : ∀ b o, hh.get? b = some o → b ≠ hh.objs.size := fun b o e => Nat.ne_of_lt (Heap.lt_size e)
  have vself : ([(("self" : Str), Value.ref x), (f, v)] : List (Str × Value)).reverse.lookup ("self" : Str) = some (.ref x) := by
    have z : (("self" : Str) == f) = false := by
      have := Sc.fs
      rw [beq_eq_false_iff_ne] at this ⊢
      exact Ne.symm this
    show (match (("self" : Str) == f) with | true => some v | false => List.lookup ("self" : Str) [(("self" : Str), Value.ref x)]) = _
    rw [z]
    rfl
  have vfld : ([(("self" : Str), Value.ref x), (f, v)] : List (Str × Value)).reverse.lookup f = some v := by
    show (match (f == f) with | true => some v | false => _) = _
    rw [beq_self_eq_true]
  show _root_.PySem.wpAt _ _ (.func _ (ksEnv qual ⟨.function, sn0, false, false, smo⟩ hh.objs.size fI (.ref cda) cc)) (execs _ (ksEnv qual ⟨.function, sn0, false, false, smo⟩ hh.objs.size fI (.ref cda) cc)) _ _ _
  obtain ⟨pl, hev⟩ := hev (ksEnv qual ⟨.function, sn0, false, false, smo⟩ hh.objs.size fI (.ref cda) cc)
  refine ks_wpAt_execs_cons (ks_wpAt_Expr_any (ks_wpAt_MethodCall (pl := pl) ?_ hev))
  refine ks_wpAt_super_base (env := ksEnv qual ⟨.function, sn0, false, false, smo⟩ hh.objs.size fI (.ref cda) cc) Sc.sup Sc.cls (by decide) rfl (X₁ _ _ ho) rfl rfl rfl (X₁ _ _ hcode) rfl hvs hfile T.top ?_
  refine ks_loadName_global Sc.kind Sc.sup (loadGlobal_builtin (env := ksEnv qual ⟨.function, sn0, false, false, smo⟩ hh.objs.size fI (.ref cda) cc) (hg.keeps k₁) T.sp (hb.keeps k₁) hmb ⟨rfl, ?_⟩)
  refine wpAny_loadName_free Sc.kind Sc.cls rfl ⟨_, X₁ _ _ hcell, rfl⟩ ?_
  refine wpAny_loadName_local Sc.kind Sc.self hns vself ?_
  refine ks_wpAny_isType_cls hC₁ rfl ⟨rfl, ?_⟩
  refine ks_wpAny_call_super hC₁ rfl hx₁ rfl (fun c e => by cases e) (looks_mroIn X₁ T.mr) (fun h₂ hso k₂ => ?_)
  have X₂ : K.In h₂ := X₁.keeps k₂
  have hx₂ := k₂ _ _ hx₁
  have I₂ : InstAt h₂ x (excO C t0) C none := ⟨hx₂, rfl, rfl, trivial⟩
  have hm' : alongIn K "__init__" (((.ref C :: bm).dropWhile (· != Value.ref C)).drop 1) = some (some (.builtin "ValueError.__init__")) := by
    have z := T.su
    unfold ks_superIn at z
    rw [hcl] at z
    exact z
  have hI : Looks (model prog w) h₂ (isInstance (.ref x) (.type "ValueError")) true := I₂.type.andThen (looks_subIn X₂ T.ve)
  refine kxs_getMethod kxs_ValueError hso (looks_opaque X₂ T.op) (l₀ := .ref C :: bm) (fun A Q E s k q => wpAny_bind ((looks_clsIn X₂ hcl) A _ E s k (wpAny_pure q))) rfl X₂ hm' hI (ks_ne X₂ I₂ hcl) (by decide) ?_
  have k₃ : ∀ b o, h₂.get? b = some o → (h₂.push (kxs_mw "ValueError.__init__" x)).get? b = some o := fun b o e => Heap.get?_push_of_some _ e
  have hu : (h₂.push (kxs_mw "ValueError.__init__" x)).get? h₂.objs.size = some (kxs_mw "ValueError.__init__" x) := Heap.get?_push_size _ rfl
  have hns₃ : (h₂.push (kxs_mw "ValueError.__init__" x)).Ns hh.objs.size (fun y => ([(("self" : Str), Value.ref x), (f, v)] : List (Str × Value)).reverse.lookup y) := (hns.keeps k₂).keeps k₃
  have hx₃ := k₃ _ _ hx₂
  have hC₃ := k₃ _ _ (X₂ _ _ hC)
  refine kxs_callWith (i := "ValueError.__init__") (x := x) (u := h₂.objs.size) (by rfl) ?_
  refine evalArgs_plain ?_
  refine Calls.spliced_cons (ldX hns₃ vfld ?_ Sc.kind Sc.fld Sc.fd)
  refine Calls.spliced_nil ⟨hu, ?_⟩
  show wpAny _ _ (call (.ref h₂.objs.size) [v]) _ _ _
  refine wpAny_call (codeAny_of_tree ?_)
  show wpAny _ _ (callAny (.ref h₂.objs.size) ⟨[v], []⟩) _ _ _
  simp only [callAny]
  refine wpAny_bind (wpAny_load hu ?_)
  simp only [kxs_mw, show (Value.type "method-wrapper" == Value.type "method" || Value.type "method-wrapper" == Value.type "builtin_function_or_method" || Value.type "method-wrapper" == Value.type "method-wrapper") = true by decide, if_true]
  refine KFB.if_so (by decide) ?_
  refine wpAny_bind (check_bound_init PySem.F.excBase_ValueError.toExcCallFacts hC₃ hx₃ rfl ?_)
  refine wpAny_bind (wpAny_pure (wpAny_pure ?_))
  refine ⟨plainId_quiet PySem.F.excBase_ValueError.init.plain _, codeAny_builtin PySem.F.excBase_ValueError.initEntry ?_⟩
  refine exc_init_tree (cls := .ref C) (t0 := t0) (dv := none) (c2 := .none) (c3 := .none) (b4 := .bool false) hx₃ (x_one v) fun h₄ k₄ hx₄ _ => ?_
  have hLx : hh.objs.size ≠ x := Ne.symm (hL x _ hx)
  have hns₄ : h₄.Ns hh.objs.size (fun y => ([(("self" : Str), Value.ref x), (f, v)] : List (Str × Value)).reverse.lookup y) := by
    obtain ⟨oL, es, ep, e1, r⟩ := hns₃
    exact ⟨oL, es, ep, k₄ _ _ hLx e1, r⟩
  have kk : ∀ b o, b ≠ x → hh.get? b = some o → h₄.get? b = some o := fun b o hb e => k₄ b o hb (k₃ _ _ (k₂ _ _ (k₁ _ _ e)))
  have X₄ : K.In h₄ := kept_but (X₂.keeps k₃) hnx k₄
  refine ks_wpAt_execs_cons (ks_wpAt_Assign_Attr (wpAt_of_wpAny (ldX hns₄ vfld (ldX hns₄ vself ?_ Sc.kind Sc.self (by decide)) Sc.kind Sc.fld Sc.fd)))
  refine set_plain X₄ (od := none) ⟨hx₄, rfl, rfl, trivial⟩ T.sa ?_
  refine exc_osa X₄ hx₄ hcl (show refsVE (.ref C :: bm) = true from hbm) rfl T.noN (fun h₅ tk₅ dx k₅ dn dne hx₅ hn₅ => ?_)
  refine wpAt_of_wpAny (wpAny_execs_nil (hq h₅ tk₅ dx _ ⟨fun b o hb e => k₅ b o hb (kk b o hb e), hx₅, ?_, dne, hn₅⟩))
  have z1 : hh.objs.size < h₁.objs.size := hns.lt
  have z2 := (hns₄).lt
  exact Nat.le_of_lt (Nat.lt_of_lt_of_le z2 dn)
/-- a made error -/
structure XMade (h h' : Heap) (e C d : Addr) (f : Str) (v : Value) : Prop where
  keep : ∀ b o, h.get? b = some o → h'.get? b = some o
  new : h.objs.size ≤ e
  obj : ∃ oe vs, h'.get? e = some oe ∧ oe.cls = .ref C ∧ oe.dict = some d ∧ oe.data = .fields vs ∧ vs[1]? = some .none
  dbig : h.objs.size ≤ d
  dne : d ≠ e
  ns : h'.Ns1 d (fun y => if y = f then some v else none)
theorem x_made (T : ExT prog K mg C fI f) {v : Value} (X : K.In s.heap) (hg : s.heap.Ns mainGlobals mg) (hb : s.heap.Ns builtinsNs mb) (hmb : mb "super" = some (.type "super")) (hlim : s.heap.NoLimit) (hroom : A.depth + 1 < recursionLimit)
    (hq : ∀ h' tk e d, XMade s.heap h' e C d f v → R (.ok (.ret (.ref e))) { s with heap := h', toks := tk }) :
    codeAny (model prog w) A (.call (.ref C) ⟨[v], []⟩) R s := by
  obtain ⟨nm, q, N, bs, bm, sn, sub, ab, col, dd, k0, k1, k2, k3, k5, hC, hbm⟩ := T.cls
  obtain ⟨hp, g, dr, tk, os⟩ := s
  have k : ∀ b o, hp.get? b = some o → ((hp.push (kdv_tup [v])).push (excO C hp.objs.size)).get? b = some o := fun b o e => Heap.get?_push_of_some _ (Heap.get?_push_of_some _ e)
  have hget : ((hp.push (kdv_tup [v])).push (excO C hp.objs.size)).get? (hp.objs.size + 1) = some (excO C hp.objs.size) := by heap_get
  have hnx : K.lookup (hp.objs.size + 1) = none := by
    cases e : K.lookup (hp.objs.size + 1) with
    | none => rfl
    | some o =>
      have z : hp.get? (hp.objs.size + 1) = some o := X _ _ e
      exact absurd (Nat.lt_of_succ_lt (Heap.lt_size z)) (Nat.lt_irrefl _)
  refine call_own PySem.F.excBase_ValueError (fun X => refsVE_contains X bm hbm) (X _ _ hC) (looks_findIn X T.iC) (fun self => bind_fn X self T.tC) (x_one v) ?_
  refine x_init (s := ⟨(hp.push (kdv_tup [v])).push (excO C hp.objs.size), g, dr, tk, os⟩) T (X.keeps k) (hg.keeps k) (hb.keeps k) hmb (hlim.keeps k) hget hnx ?_ fun h' tk' dx t1 ⟨k', hx, dn, dne, hns⟩ => ?_
  · show A.depth + 1 < recursionLimit
    exact hroom
  · have old : ∀ b o, hp.get? b = some o → h'.get? b = some o := fun b o e => k' b o (Nat.ne_of_lt (Nat.lt_succ_of_lt (Heap.lt_size e))) (k b o e)
    have z : hp.objs.size + 1 + 1 ≤ dx := by
      first
        | (simpa only [Heap.size_push] using dn)
        | exact dn
        | (have q := dn; rw [Heap.size_push, Heap.size_push] at q; exact q)
    exact ⟨rfl, hq h' tk' (hp.objs.size + 1) dx ⟨old, Nat.le_succ _, ⟨_, _, hx, rfl, rfl, rfl, rfl⟩, Nat.le_trans (Nat.le_trans (Nat.le_succ _) (Nat.le_succ _)) z, dne, hns⟩⟩
end
open PySem.Spec L2
theorem relO_x {v : V} {v' : Value} {g : Str} (r : RelV v v') (f : Str) : RelO (List.lookup f [(g, v)]) (if f = g then some v' else none) := by
  by_cases hw : f = g
  · subst hw
    rw [if_pos rfl]
    have q : List.lookup f [(f, v)] = some v := by simp [List.lookup]
    rw [q]
    exact r
  · rw [if_neg hw]
    have qw : (f == g) = false := by simpa using hw
    have q2 : List.lookup f [(g, v)] = none := by simp [List.lookup, qw]
    rw [q2]
    trivial
section
variable {X : Cx} {C fI : Addr} {f x : Str}
/-- x(e), x an own error's class -/
def tMkX (C : Addr) (f : Str) (ta : TA) : L2.St → Hp → XK → Prop := fun σ H Q => ta σ H fun vs H1 => ∃ v, vs = [v] ∧ ∀ d, H1 d = none → Q (.ref C) (some d) (L2.upd H1 d (.xd [(f, v)]))
theorem pmk_x {a : Expr} {ta : TA} {p pos : Pos} {k : Nat} (T : ExT X.prog X.K X.mg C fI f) (hr : Room k X.A) (ha : PA X [a] ta) (gC : X.mg x = some (.ref C)) (hg : Gl X x) (hdb : (x == ("__debug__" : Str)) = false := by decide)
    (he : starEach (a :: []) X.env = (false, eval a X.env) :: starEach [] X.env := by rfl) (hpl : (backTo pos (starEach [] X.env)).any (·.1) = false := by rfl) :
    PMk X (.Call (.Name x p) [a] [] pos) (tMkX C f ta) := by
  intro pins s σ H Q I h
  refine wpAny_Call_Name_kw (ld_glob I hg gC ?_ hdb)
  refine PySem.W.callWith_K (h₀ := X.base) I.ok.mod.kin T.kC (thn (ha.run pos pins s σ H _ I h) fun us s1 hh => ?_) he hpl
  obtain ⟨vs, H1, I1, r1, v, ev, q1⟩ := hh
  subst ev
  refine ⟨I1.kIn, ?_⟩
  cases r1 with
  | cons rv rn =>
    rename_i v' us'
    cases rn
    show wpAny _ _ (call (.ref C) [v']) _ _ _
    have hlim := I1.nolimit
    obtain ⟨mb, hb1, hb2⟩ := I1.mod.blt
    have hgl := I1.mod.glob.keeps I1.bk
    have hbl := hb1.keeps I1.bk
    have hmb : mb "super" = some (.type "super") := (hb2 "super" (by decide)).trans (by first | rfl | kernel_rfl)
    obtain ⟨hp, g, dr, tk, os⟩ := s1
    refine wpAny_call (x_made T I1.kIn hgl hbl hmb hlim (by have := hr.dp; omega) fun h' tk' e d M => ?_)
    show MkP X pins σ Q (.ref e) ⟨h', g, dr, tk', os⟩
    obtain ⟨oe, fv, hoe, hc, hd, hdat, h1⟩ := M.obj
    have hns := M.ns
    obtain ⟨G', g1, g2⟩ := restrict h' fun b => decide (b ≠ e)
    have gk : ∀ b, b ≠ e → G'.get? b = h'.get? b := fun b hb => g1 b (decide_eq_true hb)
    have ge : G'.get? e = none := g2 e (by simp)
    have old : ∀ b o, hp.get? b = some o → G'.get? b = some o := fun b o q => (gk b (Nat.ne_of_lt (Nat.lt_of_lt_of_le (Heap.lt_size q) M.new))).trans (M.keep b o q)
    have ob : ObjOk X.prog X.w (L2.upd H1 d (.xd [(f, v)])) G' d (.xd [(f, v)]) :=
      ⟨_, hns.at (fun o q => (gk d M.dne).trans q), fun f' => relO_x rv f'⟩
    have J : Inv X pins σ (L2.upd H1 d (.xd [(f, v)])) ⟨G', g, dr, tk', os⟩ := I1.laid (t' := tk') old M.dbig ob
    refine ⟨e, oe, fv, ⟨G', g, dr, tk', os⟩, _, .ref C, some d, rfl, J, fun b o q => ?_, ge, hoe, ⟨hc, hd⟩, hdat, h1, ?_, rfl, I1.bare, raises_own T.exC T.tyC, q1 d (I1.hok.fresh M.dbig)⟩
    · by_cases hb : b = e
      · have q' : G'.get? b = some o := q
        rw [hb, ge] at q'; cases q'
      · exact (gk b hb).symm.trans q
    · rw [upd_ne (Ne.symm M.dne)]
      exact I1.hok.fresh M.new
end
section
variable {X : Cx} {G : Ctx} {W : WX} {e : Expr} {m : ME} {x f : Str} {fI : Addr} {p pos pos2 : Pos} {c k : Nat}
def mRaise (c : Nat) (m : ME) : MS := bindS m fun d _ env => .exc c [d] env
/-- raise x(e) -/
theorem ds_raise (hc : X.calm = true) (T : ExT X.prog X.K X.mg (G.C c) fI f) (hF : G.F c = [f]) (hr : Room k X.A) (tk : Takes X W) (he : DE X G W e m) (gC : X.mg x = some (.ref (G.C c))) (hg : Gl X x) (hdb : (x == ("__debug__" : Str)) = false := by decide)
    (hse : starEach (e :: []) X.env = (false, eval e X.env) :: starEach [] X.env := by rfl) (hpl : (backTo pos (starEach [] X.env)).any (·.1) = false := by rfl) :
    DS X G W (.Raise (some (.Call (.Name x p) [e] [] pos)) none pos2) (mRaise c m) :=
  psImp (ps_raise hc tk (pmk_x T hr (pa_cons he pa_nil hse) gC hg hdb hse hpl)) fun Z σ H ⟨g, env, S, I, h⟩ => by
    show trE G W m σ H fun v H1 => ∃ v', [v] = [v'] ∧ ∀ d, H1 d = none → W (.ref (G.C c)) (some d) σ (L2.upd H1 d (.xd [(f, v')]))
    refine bindS_ok I h fun d o env1 v H1 S1 gr hv h => ⟨v, rfl, fun a ha => ?_⟩
    obtain ⟨S2, g2, I2, r2⟩ := hv.frz
    have ex : Ext H1 (L2.upd H1 a (.xd [(f, v)])) := Ext.upd ha
    have I3 := I2.ext (N := One a) ex fun b hb => by
      have hb : b = a := hb
      subst hb
      exact ⟨ha, _, upd_same, fun _ z => nomatch z⟩
    have gr3 : Grow S2 H1 (Or1 S2 (One a)) (L2.upd H1 a (.xd [(f, v)])) := I2.grow ex _ fun b h => .inl h
    refine h _ _ σ _ _ (g2.trans gr3) I3 ⟨rfl, a, [v], rfl, .inr rfl, ?_, ?_, .cons (r2.mono gr3) .nil⟩
    · rw [upd_same, hF]; rfl
    · rw [hF]; exact Nat.le_refl _
end
end DL

set_option Elab.async false
set_option linter.all false
set_option maxRecDepth 100000
set_option maxHeartbeats 1000000
/-! DL16: try: .. except X as error: caught = error. The caught error is held as a value. -/
namespace DL
open PySem L2
/-- an exception held as a value: its class, its dict -/
def ExV (cls : Value) (a : Addr) (d : Option Addr) : HO := .ext fun h => ∃ (oe : Obj) (vs : Array Value), h.get? a = some oe ∧ oe.cls = cls ∧ oe.dict = d ∧ oe.data = .fields vs
theorem exV_is {cls : Value} {a dd : Addr} : ExV cls a (some dd) = ExD cls a dd := rfl
section
variable {X : Cx} {pins : List (Addr × Obj)} {σ : L2.St} {H : Hp} {s : Shared}
/-- an object that is not tracked, new since the entry, no frame, no cell, no pin: tracked from now on -/
theorem Inv.track {a : Addr} {oe : Obj} {vs : Array Value} {cls : Value} {d : Option Addr} (I : Inv X pins σ H s) (n0 : X.s_0.heap.get? a = none) (np : ∀ p ∈ X.pn ++ pins, p.1 ≠ a) (ha : s.heap.get? a = some oe) (hd : oe.data = .fields vs) (hc : oe.cls = cls) (hdd : oe.dict = d)
    (na : H a = none) (nL : a ≠ X.env.locals) : Inv X pins σ (L2.upd H a (ExV cls a d)) s := by
  have ne0 : ∀ b o, X.s_0.heap.get? b = some o → b ≠ a := fun b o e z => by rw [z, n0] at e; cases e
  refine ⟨I.ok, I.os, I.bare, ⟨I.base.keep, I.base.slot, fun b o e n hx => ?_, I.base.there, fun b xs e => ?_, fun b o u e => ?_, fun b ps e => ?_⟩, I.loc, I.cell, ?_, fun x c e => ?_, fun p hp => ?_, fun b u e => ?_, I.len⟩
  · rw [upd_ne (ne0 b o e)]; exact I.base.free b o e n hx
  · have q := I.base.tups b xs e
    rw [upd_ne (ne_of_none q na)]; exact q
  · have q := I.base.frzs b o u e
    rw [upd_ne (ne_of_none q na)]; exact q
  · obtain ⟨m, q⟩ := I.base.tbls b ps e
    exact ⟨m, by rw [upd_ne (ne_of_none q na)]; exact q⟩
  · rw [upd_ne (Ne.symm nL)]; exact I.free
  · rw [upd_ne (fun z => ?_)]
    · exact I.freeC x c e
    · obtain ⟨v, o, ho, hv⟩ := I.cell x c e
      rw [z, ha] at ho
      cases ho
      rw [hd] at hv; cases hv
  · obtain ⟨e, n, ne, nf, dd⟩ := I.pin p hp
    exact ⟨e, by rw [upd_ne (np p hp)]; exact n, ne, nf, dd⟩
  · by_cases hb : b = a
    · subst hb
      rw [upd_same] at e
      cases e
      exact ⟨⟨oe, vs, ha, hc, hdd, hd⟩, ⟨oe, ha⟩, fun _ _ ⟨o, v, q, r⟩ k => ⟨o, v, k _ q, r⟩⟩
    · rw [upd_ne hb] at e
      exact (I.hok b u e).stay (fun _ _ _ q => q) (fun c q => by rw [upd_ne (ne_of_none q na)]; exact q) fun c xs q => by rw [upd_ne (ne_of_none q na)]; exact q
end
/-- what 'except x as n: y = n' wishes of an exception of the body -/
def wCa (K : PySem.W.Frag) (c : Value) (i j : Nat) (Wout : WX) (D : Ends) : WX := fun cls d σ H =>
  ∃ b, PySem.W.exmOne K cls c = some b ∧ (b = true → ∀ a, H a = none → D.nx (((σ.set i (some (.ref a))).set j (some (.ref a))).set i none) (L2.upd H a (ExV cls a d))) ∧ (b = false → Wout cls d σ H)
section
variable {X : Cx} {x n y : Str} {c : Value} {i j : Nat} {body : List Stmt} {np p1 p2 p3 pos pos' : Pos} {tb : WX → TS} {Wout : WX}
theorem ps_try_caught (hex : X.ex = []) (hs : X.stack = X.env :: X.outer) (hf : X.env.frame = some X.env.locals) (hN : X.N.Nodup) (hi : X.N[i]? = some n) (hj : X.N[j]? = some y) (hij : i ≠ j) (hln : X.env.kindOf n = some .local) (hly : X.env.kindOf y = some .local) (hc : Names X x c) (tk : Takes X Wout)
    (hdn : (n == ("__debug__" : Str)) = false) (hcn : (n == ("__classdict__" : Str)) = false)
    (hw : swapsWith (.Name n p2) (some (.Name y p1)) p3.line X.env = pure false)
    (hb : ∀ (W : WX) (pn : List (Addr × Obj)) (xe : Value → Shared → Prop), Takes (X.tr pn xe) W → PassesOwn (model X.prog X.w) X.A X.env xe → PSs (X.tr pn xe) body (tb W)) :
    PS X (.Try body [.ExceptHandler (some (.Name x np)) (some n) [.Assign [.Name y p1] (.Name n p2) p3] pos'] [] [] pos) (fun D σ H => tb (wCa X.K c i j Wout D) D σ H) := by
  refine ⟨fun pins s σ H D I h => ?_⟩
  have ok := I.ok
  have hfr : X.A.frames = some (X.env :: X.outer) := by rw [ok.frames, hs]
  have hloc : Loc X.env.scope n := .inl hln
  refine wpAny_Try_except ?_
  refine wpAny_mono ((hb (wCa X.K c i j Wout D) (X.pn ++ pins) (fun e s₁ => wpAny (model X.prog X.w) X.A (noteFrame e X.env) (fun _ s₂ => wpAny (model X.prog X.w) X.A (setFlight e none) (fun _ s₃ =>
    wpAny (model X.prog X.w) X.A (handleBy e X.env [.ExceptHandler (some (.Name x np)) (some n) [.Assign [.Name y p1] (.Name n p2) p3] pos']) (SP X pins D) X.xe s₃) X.xe s₂) X.xe s₁) (fun u s' xx => ?_) PassesOwn.looking).run [] s σ H D (I.toTry _) h) (fun f s1 hsp => ?_) (fun e s1 he => he)
  · -- the catch
    obtain ⟨a, B, sI, pins', σ', H', cls, d, rfl, J', nb, up, sky, na, os, ag, b, hb1, hyes, hno⟩ := xx
    have J : Inv X pins σ' H' sI := J'.ofTry ok
    have sky' : Sky B (X.env :: X.outer) a (Zc cls d) X.env.locals s'.heap := by rw [← hs]; exact sky
    show wpAny (model X.prog X.w) X.A (noteFrame (.ref a) X.env) _ _ _
    refine Sky.land Zc.steady hfr hf sky' fun h3 fl3 up3 => ?_
    have J3 : Inv X pins σ' H' { s' with heap := h3 } := J.landed nb fl3.1 (up.trans up3) os ag
    obtain ⟨oe3, vs3, he3, hz3, hd3⟩ := fl3.there
    have notFr : ∀ {h : Heap} {o : Obj} {vs : Array Value}, h.FunFrames B (X.env :: X.outer) → h.get? a = some o → o.data = .fields vs → a ∉ frs (X.env :: X.outer) := fun {h o vs} ff e dd hm => by
      obtain ⟨_, o', e', hnf⟩ := ff.mem hm
      rw [e] at e'; cases e'
      exact hnf _ dd
    have nfr := notFr fl3.2.2.1 he3 hd3
    have nL : a ≠ X.env.locals := fun z => nfr (List.mem_filterMap.mpr ⟨X.env, List.mem_cons_self, by rw [hf, z]⟩)
    have nF : a ∉ X.fs := fun hm => by
      obtain ⟨e, he, q⟩ := List.mem_filterMap.mp hm
      exact nfr (List.mem_filterMap.mpr ⟨e, List.mem_cons_of_mem _ he, q⟩)
    have nI : ∀ b o, sI.heap.get? b = some o → b ≠ a := fun b o e z => by
      subst z
      have := nb b o e (by rw [hs]; exact nfr)
      rw [fl3.2.1] at this; cases this
    have S3 := J3.suite he3 hd3 na nL nF
    refine wpAny_handleBy_cons (codeAny_handlers_test ?_) (by intro q; cases q)
    have LT : PySem.W.Looks (model X.prog X.w) h3 (typeOf (.ref a)) cls := fun A Q E s k q => wpAny_typeOf_ref (k _ _ he3) (by rw [hz3.1]; exact q)
    have LM := PySem.W.exm_one (M := model X.prog X.w) (J3.kIn) LT hb1
    have test : ∀ {Q : Value → Shared → Prop} {E : Value → Shared → Prop}, Q c { s' with heap := h3 } → wpAny (model X.prog X.w) (X.A.mark (some (.ref a))) (eval (.Name x np) X.env) Q E { s' with heap := h3 } := fun {Q E} q => by
      obtain ⟨hg, hdbg, hm | ⟨hm, hv, hnn⟩⟩ := hc
      · exact ld_glob (X := X.suite a ((a, oe3) :: (X.pn ++ pins))) S3 hg hm q hdbg
      · exact ld_blt (X := X.suite a ((a, oe3) :: (X.pn ++ pins))) S3 hg hm hv q hnn hdbg
    refine test (LM.here ?_)
    cases b with
    | true =>
      refine codeAny_handlers_suite_as ?_
      refine HandSPX.lands_againZ fl3 fun h4 fl4 up4 => ?_
      have J4 : Inv X pins σ' H' { s' with heap := h4 } := J.landed nb fl4.1 ((up.trans up3).trans up4) os ag
      obtain ⟨oe4, vs4, he4, hz4, hd4⟩ := fl4.there
      have S4 := J4.suite he4 hd4 na nL nF
      have li : i < σ'.length := by
        have z : σ'.length = X.N.length := J.len
        rw [z]; exact (List.getElem?_eq_some_iff.mp hi).1
      refine store_ok (X := X.suite a ((a, oe4) :: (X.pn ++ pins))) (v := .ref a) S4 hN hi hloc rfl (fun s5 S5 => ?_) (.inr hln)
      have su : PSs (X.suite a ((a, oe4) :: (X.pn ++ pins))) [.Assign [.Name y p1] (.Name n p2) p3] (tAsg (tVar i) (gName j)) :=
        pss_one (ps_set (X := X.suite a ((a, oe4) :: (X.pn ++ pins))) hN hj (.inl hly) (pe_var (X := X.suite a ((a, oe4) :: (X.pn ++ pins))) hi (.inl hln) hdn hcn) hw (.inr hly))
      refine wpAny_mono (su.run [] s5 _ H' ⟨fun σ6 H6 => σ6 = (σ'.set i (some (.ref a))).set j (some (.ref a)) ∧ H6 = H', fun _ _ => False, fun _ _ => False, fun _ _ => False⟩ S5 ⟨.ref a, by rw [List.getElem?_set_self li], rfl, rfl⟩) (fun f s6 hsp => ?_) (fun _ _ z => False.elim z)
      cases f with
      | next =>
        obtain ⟨σ6, H6, S6, rfl, rfl⟩ := hsp
        refine gone_ok (X := X.suite a ((a, oe4) :: (X.pn ++ pins))) S6 hN hi hln fun s7 S7 => ?_
        obtain ⟨e7, _, _, _, _⟩ := S7.pin (a, oe4) (List.mem_append_left _ List.mem_cons_self)
        have J7 := S7.unsuite ok
        refine ⟨_, _, Inv.track J7 ?_ (fun p hp z => ?_) e7 hd4 hz4.1 hz4.2 na nL, hyes rfl a na⟩
        · cases q : X.s_0.heap.get? a with
          | none => rfl
          | some o =>
            obtain ⟨o', q'⟩ := J.base.there a o q (fun hx => by rw [hex] at hx; cases hx)
            exact absurd rfl (nI a o' q')
        · obtain ⟨q, _⟩ := J.pin p hp
          exact nI _ _ q z
      | brk => obtain ⟨_, _, _, z⟩ := hsp; exact z.elim
      | cont => obtain ⟨_, _, _, z⟩ := hsp; exact z.elim
      | ret u => obtain ⟨_, _, _, _, _, z⟩ := hsp; exact z.elim
    | false =>
      show wpAny _ X.A (handleBy (.ref a) X.env []) _ _ _
      refine wpAny_handleBy_nil ?_
      obtain ⟨k1, k2, k3, oe, vs, T, oT, ts', he, hz, hd, h1, hr⟩ := id fl3
      unfold PySem.passOn
      refine wpAny_bind (wpAny_field he hd h1 ?_)
      rw [if_neg (show ¬ ((Value.ref T == Value.none) = true) from by simp)]
      have fin : wpAny (model X.prog X.w) X.A (setFlight (.ref a) X.env.frame) (fun _ s4 => wpAny (model X.prog X.w) X.A (throw (.ref a) : Sem Flow) (SP X pins D) X.xe s4) X.xe { s' with heap := h3 } := by
        rw [hf]
        refine HandSPX.setFlight_upZ fl3 fun h4 hh4 up4 => wpAny_throw (tk _ _ ?_)
        exact ⟨a, B, sI, pins, σ', H', cls, d, rfl, J, nb, (up.trans up3).trans up4, .inr (.inr (by rw [hs]; exact hh4)), na, os, ag, hno rfl⟩
      first
        | exact wpAny_bind (wpAny_pure (wpAny_bind fin))
        | exact wpAny_bind fin
  · cases f with
    | next =>
      obtain ⟨σ', H', J', q⟩ := hsp
      exact wpAny_execs_nil ⟨σ', H', J'.ofTry ok, q⟩
    | brk =>
      obtain ⟨σ', H', J', q⟩ := hsp
      exact ⟨σ', H', J'.ofTry ok, q⟩
    | cont =>
      obtain ⟨σ', H', J', q⟩ := hsp
      exact ⟨σ', H', J'.ofTry ok, q⟩
    | ret u =>
      obtain ⟨v, σ', H', J', r, q⟩ := hsp
      exact ⟨v, σ', H', J'.ofTry ok, r, q⟩
end
section
variable {X : Cx} {G : Ctx} {W : WX} {x n y : Str} {CS : Addr} {i j : Nat} {body : List Stmt} {np p1 p2 p3 pos pos' : Pos} {mb : MS} {hs : Nat → Option Bool}
/-- try: body; except x as n: y = n -/
def mTryC (hs : Nat → Option Bool) (i j : Nat) (body : MS) : MS := fun env => match body env with
  | .exc c fs e => match hs c with
    | some true => (match freeE e i && (freeE e j && decide (i ≠ j)) with
      | true => .nx ((e.set j (some (.exc c fs, .s))).set i none)
      | false => .bad)
    | some false => .exc c fs e
    | none => .bad
  | r => r
theorem SI.clearS {g : Gh} {σ : L2.St} {H : Hp} {env : EV} {S : Sset} {P : List (Addr × D)} {r : Option (D × Tag)} (I : SI G g σ H env S P) (h : env[i]? = some r) (hp : ∀ e, r ≠ some (e, .p)) : SI G g (σ.set i none) H (env.set i none) S P := by
  have old : ∀ {j : Nat} {e : D} {t : Tag}, (env.set i none)[j]? = some (some (e, t)) → i ≠ j ∧ env[j]? = some (some (e, t)) := fun {j e t} q => by
    rcases get_set q with ⟨_, q⟩ | q
    · cases q
    · exact q
  have at_ : ∀ {j : Nat}, i ≠ j → (σ.set i none)[j]? = σ[j]? := fun {j} hj => List.getElem?_set_ne hj
  refine ⟨by rw [List.length_set, List.length_set]; exact I.len, fun j e q => ?_, fun j e t ht q => ?_, fun j k e e' t u b ht hu q q' q1 q2 => ?_, fun j e q => ?_, fun b hb hn => ?_, I.pend, I.pun, fun p hp j e t ht q => ?_, I.fr, I.sh0, I.sh1, I.shH, I.tab, I.nt⟩
  · rw [at_ (old q).1]; exact I.shr j e (old q).2
  · rw [at_ (old q).1]; exact I.own j e t ht (old q).2
  · rw [at_ (old q).1] at q1
    rw [at_ (old q').1] at q2
    exact I.uniq j k e e' t u b ht hu (old q).2 (old q').2 q1 q2
  · obtain ⟨h1, a, h2, h3⟩ := I.pin j e (old q).2
    have := (old q).1
    rw [h1] at this
    exact ⟨h1, a, by rw [at_ this]; exact h2, h3⟩
  · obtain ⟨e, q⟩ := I.pin0 b hb hn
    refine ⟨e, ?_⟩
    have : i ≠ 0 := fun z => by subst z; rw [h] at q; injection q with q; exact hp e q
    rw [List.getElem?_set_ne this]; exact q
  · rw [at_ (old q).1]; exact I.pdis p hp j e t ht (old q).2
theorem ds_tryC (hex : X.ex = []) (hst : X.stack = X.env :: X.outer) (hf : X.env.frame = some X.env.locals) (hN : X.N.Nodup) (hi : X.N[i]? = some n) (hj : X.N[j]? = some y) (hij : i ≠ j) (hln : X.env.kindOf n = some .local) (hly : X.env.kindOf y = some .local) (hc : Names X x (.ref CS)) (tk : Takes X W)
    (hh : ∀ c b, hs c = some b → PySem.W.exmOne X.K (.ref (G.C c)) (.ref CS) = some b)
    (hb : ∀ (W : WX) (pn : List (Addr × Obj)) (xe : Value → Shared → Prop), Takes (X.tr pn xe) W → PassesOwn (model X.prog X.w) X.A X.env xe → DSs (X.tr pn xe) G W body mb)
    (hdn : (n == ("__debug__" : Str)) = false := by decide) (hcn : (n == ("__classdict__" : Str)) = false := by decide)
    (hw : swapsWith (.Name n p2) (some (.Name y p1)) p3.line X.env = pure false := by rfl) :
    DS X G W (.Try body [.ExceptHandler (some (.Name x np)) (some n) [.Assign [.Name y p1] (.Name n p2) p3] pos'] [] [] pos) (mTryC hs i j mb) :=
  psImp (ps_try_caught (tb := fun W => trS G W mb) hex hst hf hN hi hj hij hln hly hc tk hdn hcn hw hb) fun Z σ H ⟨g, env, S, I, h⟩ => by
    refine ⟨g, env, S, I, ?_⟩
    unfold mTryC at h
    cases q : mb env with
    | nx e => simp only [q] at h; exact h
    | rt d o e => simp only [q] at h; exact h
    | bk e => simp only [q] at h; exact h
    | ct e => simp only [q] at h; exact h
    | bad => simp only [q] at h; exact h
    | exc c fs e =>
      simp only [q] at h
      intro cls dd σ' H' S' gr I' er
      obtain ⟨rfl, b, vs, rfl, sb, hb1, hb2, rl⟩ := er
      cases q2 : hs c with
      | none => simp only [q2] at h; exact h.elim
      | some w =>
        refine ⟨w, hh c w q2, fun hw a na => ?_, fun hw => ?_⟩
        · subst hw
          simp only [q2] at h
          cases q3 : freeE e i && (freeE e j && decide (i ≠ j)) with
          | false => simp only [q3] at h; exact h.elim
          | true =>
            simp only [q3] at h
            obtain ⟨f1, f2⟩ := Bool.and_eq_true_iff.mp q3
            obtain ⟨f2, _⟩ := Bool.and_eq_true_iff.mp f2
            have ex : Ext H' (L2.upd H' a (ExV (.ref (G.C c)) a (some b))) := Ext.upd na
            have I2 := I'.ext (N := One a) ex fun d hd => by
              have hd : d = a := hd
              subst hd
              exact ⟨na, _, upd_same, fun _ z => nomatch z⟩
            have g2 : Grow S' H' (Or1 S' (One a)) (L2.upd H' a (ExV (.ref (G.C c)) a (some b))) := I'.grow ex _ fun b h => .inl h
            have rep : Rep G (L2.upd H' a (ExV (.ref (G.C c)) a (some b))) (Or1 S' (One a)) (.ref a) (.exc c fs) :=
              .exc (.inr rfl) (.inl sb) upd_same ((g2 b sb).2.trans hb1) hb2 (rl.mono g2)
            obtain ⟨ri, ki1, ki2⟩ := freeE_ok f1
            obtain ⟨rj, kj1, kj2⟩ := freeE_ok f2
            have I3 := I2.setS ki1 ki2 rep
            have kj1' : (e.set i (some (.exc c fs, Tag.s)))[j]? = some rj := by rw [List.getElem?_set_ne hij]; exact kj1
            have I4 := I3.setS kj1' kj2 rep
            have li : i < e.length := (List.getElem?_eq_some_iff.mp ki1).1
            have ki3 : ((e.set i (some (.exc c fs, Tag.s))).set j (some (.exc c fs, Tag.s)))[i]? = some (some (.exc c fs, Tag.s)) := by
              rw [List.getElem?_set_ne (Ne.symm hij), List.getElem?_set_self li]
            have I5 := I4.clearS ki3 fun e z => by injection z with z; injection z with _ z; cases z
            have eE : ((e.set i (some (D.exc c fs, Tag.s))).set j (some (.exc c fs, Tag.s))).set i none = (e.set j (some (.exc c fs, Tag.s))).set i none := by
              rw [List.set_comm _ _ hij, List.set_set]
            rw [eE] at I5
            exact h _ _ _ (gr.trans g2) I5
        · subst hw
          simp only [q2] at h
          exact h _ _ _ _ _ gr I' ⟨rfl, b, vs, rfl, sb, hb1, hb2, rl⟩
end
end DL

set_option Elab.async false
set_option linter.all false
set_option maxRecDepth 100000
set_option maxHeartbeats 1000000
/-! DL17: an own error held as a value: isinstance, its field. -/
namespace DL
open PySem PySem.Spec PySem.Calls PyProof.Rows PySem.W
section
variable {prog : Program} {w : World} {A : Around} {E : Value → Shared → Prop} {s : Shared} {K : Frag} {x D : Addr} {ox : Obj} {od : Option Obj}
theorem findObj_dataX {C : Addr} {name : Str} {a g : Value} (hc : (clsIn K C).isSome = true) (ha : findIn K (.ref C) name = some (some a)) (hg : specialIn K a "__get__" = some (some g)) (ht : takesIn K a = some true) : findObj K C od name = some (.bind g a) := by
  obtain ⟨cd, hc⟩ := Option.isSome_iff_exists.mp hc
  unfold findObj
  rw [hc, Option.bind_some, ha, Option.bind_some]
  simp [hg, ht]
theorem kin_classX {Q : Option Value → Shared → Prop} (hga : findIn K (.ref D) "__getattribute__" = some (some (.builtin "BaseException.__getattribute__"))) (hgt : findIn K (.ref D) "__getattr__" = some none) (hsub : subIn K (.ref D) (.type "BaseException") = some true)
    (hdct : hasDictIn K D = true) (ha : findIn K (.ref D) "__class__" = some (some (.builtin "object.__class__")))
    (hn : specialIn K (.builtin "object.__class__") "__get__" = some (some (.builtin "getset_descriptor.__get__"))) (htk : takesIn K (.builtin "object.__class__") = some true) (hm : mroIn K D (.type "object") = some true)
    (X : K.In s.heap) (I : InstAt s.heap x ox D od) (h : Q (some (.ref D)) { s with toks := s.toks + 1 }) : wpAny (model prog w) A (getAttr? (.ref x) "__class__") Q E s := by
  have hf : findObj K D od "__class__" = some (.bind (.builtin "getset_descriptor.__get__") (.builtin "object.__class__")) := findObj_dataX (by obtain ⟨cd, hc, _⟩ := any_some hdct; rw [hc]; rfl) ha hn htk
  obtain ⟨hp, g, d, t, os⟩ := s
  have L0 := I.type (M := model prog w)
  have L1 := looks_findIn (M := model prog w) X hga
  have L2 := looks_findIn (M := model prog w) X hgt
  have L3 := looks_find (M := model prog w) X I hf
  have sub : Looks (model prog w) hp (isInstance (.ref x) (.type "BaseException")) true := L0.andThen (looks_subIn X hsub)
  have hx0 : (false && onTheHeap (Value.builtin "BaseException.__getattribute__")) = false := rfl
  have hx2 : (Value.builtin "BaseException.__getattribute__" == Value.builtin "object.__getattribute__") = false := by decide +kernel
  have hx1 : (onTheHeap (Value.ref D) && Value.builtin "BaseException.__getattribute__" == Value.builtin "object.__getattribute__") = false := by rw [hx2]; rfl
  unfold getAttr? getAttrBy? getAttrBy
  refine wpAny_bind (wpAny_mkText (wpAny_bind (wpAny_attempt (wpAny_holding (wpAny_bind (L0.at (wpAny_bind (L1.at ?_))))))))
  show wpAny _ _ (if (onTheHeap (Value.ref D) && Value.builtin "BaseException.__getattribute__" == Value.builtin "object.__getattribute__") = true then _ else _) _ _ _
  rw [hx1, if_neg Bool.false_ne_true]
  unfold getAttrByItsOwn hookBefore
  refine wpAny_bind ?_
  rw [if_pos (show onTheHeap (Value.ref D) = true from rfl)]
  refine L2.at ?_
  refine wpAny_bind (wpAny_attempt (wpAny_holding ?_))
  unfold callGetattribute
  rw [hx0, if_neg Bool.false_ne_true]
  unfold boundAndCalled
  rw [PySem.F.excAttr_ValueError.ga.bind (.ref x)]
  refine wpAny_bind (wpAny_pure ?_)
  show wpAny _ _ (call (.builtin "BaseException.__getattribute__") [.ref x, .str "__class__" t]) _ _ _
  refine wpAny_call (codeAny_call_builtin PySem.F.excAttr_ValueError.ga.plain PySem.F.entry_bexc_ga ?_)
  refine @check_slot (model prog w) _ _ ⟨hp, g, d, t + 1, os⟩ "BaseException.__getattribute__" "BaseException" "__getattribute__" (.ref x) [.str "__class__" t] [] _ (by decide +kernel) (by decide +kernel) sub (PySem.F.args_bexc_ga (.ref x) (.str "__class__" t)) ?_
  unfold Builtin.«object.__getattribute__»
  refine wpAny_bind (wpAny_of_eq (a := ((Value.ref x : Value), [Value.str "__class__" t])) (by first | rfl | (simp only [slotArgs]; rfl)) ?_)
  refine wpAny_bind (wpAny_pure (wpAny_bind (L0.at (wpAny_bind (L3.at ?_)))))
  show wpAny _ _ (holding [Value.builtin "object.__class__"] (call (.builtin "getset_descriptor.__get__") [.builtin "object.__class__", .ref x, .ref D]) >>= ret) _ _ _
  refine wpAny_bind (wpAny_holding (wpAny_call (class_get (s := ⟨hp, g, d, t + 1, os⟩) (ox := ox) (od := od) X I hm ?_)))
  refine wpAny_pure ?_
  show wpAny _ _ (handedOut (.ref D)) _ _ _
  rw [handedOut_of (v := .ref D) rfl]
  first
    | exact wpAny_pure (wpAny_pure h)
    | exact wpAny_pure h
    | exact wpAny_pure (wpAny_bind (wpAny_pure (wpAny_pure h)))
theorem kitx_excX (hga : findIn K (.ref D) "__getattribute__" = some (some (.builtin "BaseException.__getattribute__"))) (hgt : findIn K (.ref D) "__getattr__" = some none) (hsub : subIn K (.ref D) (.type "BaseException") = some true) (hdct : hasDictIn K D = true) (ha : findIn K (.ref D) "__class__" = some (some (.builtin "object.__class__")))
    (hn : specialIn K (.builtin "object.__class__") "__get__" = some (some (.builtin "getset_descriptor.__get__"))) (htk : takesIn K (.builtin "object.__class__") = some true) (hm : mroIn K D (.type "object") = some true) :
    KitX K (.ref x) (.ref D) (fun h => InstAt h x ox D od) where
  ty := fun _ _ _ I => I.type
  it := fun _ _ X _ => by
    obtain ⟨cdD, hcD, _⟩ := any_some hdct
    unfold clsIn at hcD
    split at hcD
    · rename_i c' d' cd' sl' ho
      intro A' Q' E' s' k q
      unfold isType loadHead
      exact wpAny_bind (wpAny_loadPart (k _ _ (X _ _ ho)) (wpAny_pure q))
    · cases hcD
  ne := fun h tp dd its n sl X htp => by
    obtain ⟨cdD, hcD, _⟩ := any_some hdct
    refine Bool.eq_false_iff.mpr fun q => ?_
    have e : D = tp := Value.ref.inj (beq_iff_eq.mp q)
    subst e
    unfold clsIn at hcD
    split at hcD
    · rename_i c' d' cd' sl' ho
      have z := (X _ _ ho).symm.trans htp
      cases z
    · cases hcD
  ca := fun X I k => kin_classX hga hgt hsub hdct ha hn htk hm X I k
end
end DL
namespace DL
open PySem PySem.Spec PyProof.Rows L2
/-- isinstance(e, c), e a held error with a dict -/
def rIsX (K : PySem.W.Frag) : List V → Hp → VK → Prop := fun xs H Q => ∃ (a D dd : Addr) (kvs : List (Str × V)) (c : V) (cv : Value) (b : Bool), xs = [.ref a, c] ∧ H a = some (ExD (.ref D) a dd) ∧ H dd = some (.xd kvs) ∧ ExcC K D ∧ ClsV c cv ∧ PySem.W.kitOne K (.ref D) cv = some b ∧ Q (.bl b) H
theorem inst_exc {X : Cx} {pins : List (Addr × Obj)} {σ : L2.St} {H : Hp} {s : Shared} {a D dd : Addr} {kvs : List (Str × V)} (I : Inv X pins σ H s) (ha : H a = some (ExD (.ref D) a dd)) (hd : H dd = some (.xd kvs)) :
    ∃ (oe od : Obj) (mA : Str → Option Value), PySem.W.InstAt s.heap a oe D (some od) ∧ (∀ f, PySem.W.lookIn f od = some (mA f)) ∧ ∀ f, RelO (List.lookup f kvs) (mA f) := by
  obtain ⟨⟨oe, vs, hoe, hc, hdd, hdt⟩, _, _⟩ := I.hok a _ ha
  have hx : ObjOk X.prog X.w H s.heap dd (.xd kvs) := I.hok dd _ hd
  obtain ⟨mA, hns, hr⟩ := hx
  obtain ⟨od, ho, hl⟩ := lookIn_ns hns
  exact ⟨oe, od, mA, ⟨hoe, hc, by unfold PySem.W.notCls; rw [hdt] <;> rfl, by rw [hdd]; exact ho⟩, hl, hr⟩
section
variable {X : Cx}
theorem call_isX : CallR X (.builtin "isinstance") (rIsX X.K) := by
  intro pins s σ H xs us Q I r h
  obtain ⟨a, D, dd, kvs, c, cv, b, rfl, ha, hd, C, k, e, q⟩ := h
  obtain ⟨u1, u2, rfl, r1, r2⟩ := vals2 r
  have e2 := k.eq r2
  subst e2
  cases r1
  obtain ⟨oe, od, mA, J, _, _⟩ := inst_exc I ha hd
  exact PySem.W.kia_one (kitx_excX C.hg C.hk C.hs C.hd C.ha C.hn C.ht C.hm) I.kIn J e (fun z => nomatch z) fun tk => ⟨.bl b, H, I.tok tk, rfl, q⟩
/-- what the class says, so that an error's field f is read off its dict -/
structure ExF (K : PySem.W.Frag) (D : Addr) (f : Str) : Prop where
  ga : PySem.W.findIn K (.ref D) "__getattribute__" = some (some (.builtin "BaseException.__getattribute__"))
  gg : PySem.W.findIn K (.ref D) "__getattr__" = some none
  exC : PySem.W.subIn K (.ref D) (.type "BaseException") = some true
  hdC : PySem.W.hasDictIn K D = true
  noN : PySem.W.findIn K (.ref D) f = some none
/-- e.f -/
def tAttrX (K : PySem.W.Frag) (f : Str) (te : TE) : TE := fun σ H Q => te σ H fun x H1 => ∃ (a D dd : Addr) (kvs : List (Str × V)) (v : V), x = .ref a ∧ H1 a = some (ExD (.ref D) a dd) ∧ H1 dd = some (.xd kvs) ∧ List.lookup f kvs = some v ∧ ExF K D f ∧ Q v H1
theorem pe_attrX {e : Expr} {te : TE} {f : Str} {pos : Pos} (he : PE X e te) (hb : attributeBase e f X.env (eval e X.env) = eval e X.env := by rfl) : PE X (.Attribute e f pos) (tAttrX X.K f te) := by
  refine ⟨fun pins s σ H Q I h => ?_⟩
  refine attr_of hb (thn (he.run pins s σ H _ I h) fun u s1 hh => ?_)
  obtain ⟨x, H1, I1, rx, a, D, dd, kvs, v, ex, ha, hd, l, T, q⟩ := hh
  subst ex
  obtain rfl : u = Value.ref a := rx
  obtain ⟨oe, od, mA, J, hl, hr⟩ := inst_exc I1 ha hd
  obtain ⟨u, hu, ru⟩ := RelO.some_of (v := v) (o := mA f) (by rw [← l]; exact hr f)
  exact PySem.HandSPX.exc_get I1.kIn J T.ga T.gg T.exC (PySem.W.findObj_own T.hdC T.noN rfl (by rw [hl, hu])) (handed_of ru) ⟨v, H1, I1.tok _, ru, q⟩
end
section
variable {X : Cx} {G : Ctx} {W : WX} {e e2 : Expr} {pos : Pos} {H : Hp} {S : Sset} {v : V}
theorem RepB.exc {c : Nat} {fs : List D} (h : RepB G H S v (.exc c fs)) : ∃ a dd vs, v = .ref a ∧ H a = some (ExD (.ref (G.C c)) a dd) ∧ H dd = some (.xd ((G.F c).zip vs)) ∧ vs.length ≤ (G.F c).length ∧ RepL G H S vs fs := by
  rcases h with h | ⟨_, _, h⟩
  · cases h with
    | exc s1 s2 h1 h2 l r => exact ⟨_, _, _, rfl, h1, h2, l, r⟩
  · exact h.elim
def isxP (anc : Nat → List Nat) (oks : List Nat) (c : Nat) : D → RP
  | .exc k _ => match oks.contains k with | true => some (.bl ((anc k).contains c), false) | false => none
  | _ => none
/-- isinstance(e, c), e a held error -/
theorem de_isx {anc : Nat → List Nat} {oks : List Nat} {c : Nat} {oa : Opn} {px : Pos} (hi : ∀ k, oks.contains k = true → ExcC X.K (G.C k) ∧ PySem.W.kitOne X.K (.ref (G.C k)) (.ref (G.C c)) = some ((anc k).contains c)) (hg : Gl X "isinstance") (hm : X.mg "isinstance" = none) (ha : DO X G W e oa) (hc : PE X e2 (tC (.ref (G.C c))))
    (h1 : starEach (e :: e2 :: []) X.env = (false, eval e X.env) :: starEach [e2] X.env := by rfl) (h2 : starEach (e2 :: []) X.env = (false, eval e2 X.env) :: starEach [] X.env := by rfl) (hpl : (backTo pos (starEach [e2] X.env)).any (·.1) = false := by rfl) :
    DE X G W (.Call (.Name "isinstance" px) [e, e2] [] pos) (mO1 (isxP anc oks c) oa) :=
  peImp (pe_callB call_isX hg hm (by decide +kernel) (pa_cons ha.pe (pa_cons hc pa_nil h2) h1) (by decide) (by decide) h1 hpl) fun σ H Q h => tO1 (r := fun v H Q => rIsX X.K [v, .ref (G.C c)] H Q) (fun H S v x d o Q hS rx e k => by
    cases x with
    | exc n fs =>
      simp only [isxP] at e
      cases q : oks.contains n with
      | false => rw [q] at e; cases e
      | true =>
        rw [q] at e
        injection e with e; injection e with e1 e2; subst e1; subst e2
        obtain ⟨a, dd, vs, rfl, h1, h2, _, _⟩ := rx.exc
        obtain ⟨z1, z2⟩ := hi n q
        exact ⟨a, _, dd, _, _, _, _, rfl, h1, h2, z1, .own _, z2, k_bl k⟩
    | _ => cases e) h
def attrXP (idx : Nat → Option Nat) : D → RP
  | .exc c fs => match idx c with
    | some j => (fs[j]?).map fun d => (d, false)
    | none => none
  | _ => none
def FldX (K : PySem.W.Frag) (G : Ctx) (f : Str) (idx : Nat → Option Nat) : Prop := ∀ c j, idx c = some j → ExF K (G.C c) f ∧ (G.F c)[j]? = some f ∧ (G.F c).Nodup
theorem de_attrX {f : Str} {idx : Nat → Option Nat} {oa : Opn} (hf : FldX X.K G f idx) (ha : DO X G W e oa) (hb : attributeBase e f X.env (eval e X.env) = eval e X.env := by rfl) : DE X G W (.Attribute e f pos) (mO1 (attrXP idx) oa) :=
  peImp (pe_attrX ha.pe hb) fun σ H Q h => tO1 (r := fun x H1 Q => ∃ (a D dd : Addr) (kvs : List (Str × V)) (v : V), x = .ref a ∧ H1 a = some (ExD (.ref D) a dd) ∧ H1 dd = some (.xd kvs) ∧ List.lookup f kvs = some v ∧ ExF X.K D f ∧ Q v H1) (fun H S v x d o Q hS rx e k => by
    cases x with
    | exc c fs =>
      simp only [attrXP] at e
      cases q : idx c with
      | none => rw [q] at e; cases e
      | some j =>
        rw [q] at e
        cases q2 : fs[j]? with
        | none => simp [q2] at e
        | some d' =>
          simp [q2] at e
          obtain ⟨rfl, rfl⟩ := e
          obtain ⟨a, dd, vs, rfl, h1, h2, h3, h4⟩ := rx.exc
          obtain ⟨f1, f2, f3⟩ := hf c j q
          obtain ⟨v, q3, r⟩ := h4.get q2
          exact ⟨a, _, dd, _, v, rfl, h1, h2, (zip_look f3 f2).trans q3, f1, k v H (New.same r)⟩
    | _ => cases e) h
end
end DL

set_option Elab.async false
set_option linter.all false
set_option maxRecDepth 100000
set_option maxHeartbeats 1000000
/-! DL18: lambdas without a parameter, or with one that has an int as its default: made, called. -/
namespace DL
open PySem PySem.Spec PyProof.Rows PySem.W
abbrev klx_fn (qual : Str) (params : Arguments) (body : Expr) (scope : Scope) (cl : List (Str × Addr)) (dV pm cdv ct : Value) : FuncData :=
  { name := "<lambda>", qualname := qual, params, body := .expr body, scope, globals := mainGlobals, closure := cl, defaults := dV, kwdefaults := .none, doc := .none, pyModule := pm, annotations := none, code := cdv, closureTuple := ct, builtins := builtinsNs }
abbrev klx_obj (qual : Str) (params : Arguments) (body : Expr) (scope : Scope) (cl : List (Str × Addr)) (dV pm : Value) (c' : Addr) (ctv : Value) : Obj :=
  { cls := .type "function", data := .func (klx_fn qual params body scope cl dV pm (.ref c') ctv) }
section
variable {M : Model} {A : Around} {E : Value → Shared → Prop} {s : Shared} {qual : Str} {params : Arguments} {body : Expr} {scope : Scope} {env : Env} {c P : Addr} {ps : Array Value} {pos : Pos} {firstLine : Nat} {mg : Str → Option Value}
  {clos : List (Str × Addr)} {dV : Value} {Q : Value → Shared → Prop}
theorem klx_makeTail (hcl : closureFor scope env = pure clos) (hge0 : env.globals = mainGlobals) (hg : s.heap.Ns mainGlobals mg) (hcode : env.code = .ref c) (C : CodeHd s.heap c P) (hP : s.heap.get? P = some (tabObj ps)) (ht : TriplesOk ps.toList)
    (hnf : codeAmong pos ps.toList = none) (hgP : mainGlobals ≠ P) (hb : s.heap.BuiltinsAt mg P)
    (h : ∀ c' ctv h' tk, Heap.ExtBut P s.heap h' → s.heap.objs.size ≤ c' → c' < h'.objs.size → h'.CodeRec (.ref c') qual → h'.get? P = some (tabObj (ps ++ #[rawInt pos.line, rawInt pos.col, .ref c'])) →
      Q (.ref h'.objs.size) { s with heap := h'.push (klx_obj qual params body scope clos dV ((mg "__name__").getD .none) c' ctv), toks := tk }) :
    wpAny M A (makeTail "<lambda>" qual params (.expr body) scope env dV .none none pos firstLine) Q E s := by
  obtain ⟨bm, ob, hbm, hne0, _, hneP, hbo, hcls, hdict, hdata⟩ := hb
  unfold makeTail
  rw [hcl, hge0]
  refine wpAny_bind (wpAny_pure ?_)
  cases clos with
  | nil =>
    simp only [List.isEmpty_nil, if_true]
    refine wpAny_bind (wpAny_pure ?_)
    refine wpAny_bind (wpAny_functionCodeX hcode (C.code hP ht) (C.tab hP) hnf fun c' h' tk hx hge hlt _ hrec htb _ => ?_)
    have hg' := hg.extBut hx hgP
    refine wpAny_bind (wpAny_builtinsFor hg' hbm hne0 (hx _ _ hneP hbo) hcls hdict hdata ?_)
    refine wpAny_bind (wpAny_nsGet hg' ?_)
    exact wpAny_bind (wpAny_pure (wpAny_newObj_type (h c' .none h' tk hx hge hlt hrec htb.2) (by size_fits)))
  | cons q r =>
    simp only [List.isEmpty_cons, Bool.false_eq_true, if_false]
    refine wpAny_bind (wpAny_newTextTuple ?_)
    refine wpAny_bind (wpAny_functionCodeX hcode ((C.keeps fun b o e => Heap.get?_push_of_some _ e).code (Heap.get?_push_of_some _ hP) ht) ((C.keeps fun b o e => Heap.get?_push_of_some _ e).tab (Heap.get?_push_of_some _ hP)) hnf fun c' h' tk hx hge hlt _ hrec htb _ => ?_)
    have hg' := (hg.push _).extBut hx hgP
    have hx' : Heap.ExtBut P s.heap h' := fun b o hb' e => hx b o hb' (Heap.get?_push_of_some _ e)
    have hge' : s.heap.objs.size ≤ c' := Nat.le_trans (by rw [Heap.size_push]; omega) hge
    refine wpAny_bind (wpAny_builtinsFor hg' hbm hne0 (hx' _ _ hneP hbo) hcls hdict hdata ?_)
    refine wpAny_bind (wpAny_nsGet hg' ?_)
    exact wpAny_bind (wpAny_pure (wpAny_newObj_type (h c' _ h' tk hx' hge' hlt hrec htb.2) (by size_fits)))
theorem klx_makeTailHit {cv : Value} (hcl : closureFor scope env = pure clos) (hge0 : env.globals = mainGlobals) (hg : s.heap.Ns mainGlobals mg) (hcode : env.code = .ref c) (C : CodeHd s.heap c P) (hP : s.heap.get? P = some (tabObj ps)) (ht : TriplesOk ps.toList)
    (hf : codeAmong pos ps.toList = some cv) (hb : s.heap.BuiltinsAt mg P)
    (h : ∀ (ctv : Value) (h' : Heap) (tk : Tok), (∀ b o, s.heap.get? b = some o → h'.get? b = some o) → s.heap.objs.size ≤ h'.objs.size →
      Q (.ref h'.objs.size) { s with heap := h'.push { cls := .type "function", data := .func (klx_fn qual params body scope clos dV ((mg "__name__").getD .none) cv ctv) }, toks := tk }) :
    wpAny M A (makeTail "<lambda>" qual params (.expr body) scope env dV .none none pos firstLine) Q E s := by
  obtain ⟨bm, ob, hbm, hne0, _, hneP, hbo, hcls, hdict, hdata⟩ := hb
  unfold makeTail
  rw [hcl, hge0]
  refine wpAny_bind (wpAny_pure ?_)
  cases clos with
  | nil =>
    simp only [List.isEmpty_nil, if_true]
    refine wpAny_bind (wpAny_pure ?_)
    refine wpAny_bind (wpAny_functionCode_hit hcode (C.code hP ht) hf ?_)
    refine wpAny_bind (wpAny_builtinsFor hg hbm hne0 hbo hcls hdict hdata ?_)
    refine wpAny_bind (wpAny_nsGet hg ?_)
    exact wpAny_bind (wpAny_pure (wpAny_newObj_type (h .none s.heap s.toks (fun _ _ e => e) (Nat.le_refl _)) (by size_fits)))
  | cons q r =>
    simp only [List.isEmpty_cons, Bool.false_eq_true, if_false]
    refine wpAny_bind (wpAny_newTextTuple ?_)
    refine wpAny_bind (wpAny_functionCode_hit hcode ((C.keeps fun b o e => Heap.get?_push_of_some _ e).code (Heap.get?_push_of_some _ hP) ht) hf ?_)
    refine wpAny_bind (wpAny_builtinsFor (hg.push _) hbm hne0 (Heap.get?_push_of_some _ hbo) hcls hdict hdata ?_)
    refine wpAny_bind (wpAny_nsGet (hg.push _) ?_)
    have hsz : ∀ oT : Obj, s.heap.objs.size ≤ (s.heap.push oT).objs.size := fun oT => by rw [Heap.size_push]; omega
    exact wpAny_bind (wpAny_pure (wpAny_newObj_type (h _ _ s.toks (fun b o e => Heap.get?_push_of_some _ e) (hsz _)) (by size_fits)))
end
end DL
namespace DL
open PySem PySem.Spec PyProof.Rows L2 LamX
/-- the tuple of defaults -/
def DefAt (h : Heap) (H : Hp) (fr : List Addr) (dV : Value) : Option Int → Prop
  | none => dV = .none
  | some i => ∃ (T : Addr) (t : Tok), dV = .ref T ∧ h.get? T = some { cls := .type "tuple", data := .seq #[.int i t] } ∧ H T = none ∧ T ∉ fr
/-- the defaults of the text -/
def DefsOf (params : Arguments) (env : Env) : Option Int → Prop
  | none => defaultsOf params env = ([], [])
  | some i => ∃ j p, defaultsOf params env = ([eval (.Constant (.int i) j p) env], [])
section
variable {X : Cx} {pins : List (Addr × Obj)} {σ : L2.St} {H : Hp} {s : Shared}
theorem lam_tail {T : List (Addr × Str)} {c P : Addr} {params : Arguments} {body : Expr} {scope : Scope} {pos : Pos} {firstLine : Nat} {dV : Value} {io : Option Int} {E : Value → Shared → Prop} {Q : Value → Shared → Prop} (I : Inv X pins σ H s) (TB : TabB X.base X.mg c P) (hcode : X.env.code = .ref c)
    (hm : (P, X.env.qual ++ "<lambda>") ∈ T) (hu : ∀ p ∈ T, p.1 = P → p.2 = X.env.qual ++ "<lambda>") (hT : Tabs T H) (hD : DefAt s.heap H (frs X.stack) dV io) (hfree : ∀ y ∈ scope.names, y.2 = .free → ∃ c, X.env.cells.lookup y.1 = some c)
    (h : ∀ (f c' : Addr) (pm ctv : Value) (H1 : Hp) (s' : Shared), Inv X pins σ H1 s' → Ext1 H H1 → Tabs T H1 → DefAt s'.heap H1 (frs X.stack) dV io →
      s'.heap.get? f = some (klx_obj (X.env.qual ++ "<lambda>") params body scope (cloFrom X.env.cells scope.names []) dV pm c' ctv) → H1 f = none → f ∉ frs X.stack → H1 c' = some (CodeO c' (X.env.qual ++ "<lambda>")) → Q (.ref f) s') :
    wpAny (model X.prog X.w) X.A (makeTail "<lambda>" (X.env.qual ++ "<lambda>") params (.expr body) scope X.env dV .none none pos firstLine) Q E s := by
  obtain ⟨ps, hP, ht, ha⟩ := hT _ hm
  have bP : s.heap.BuiltinsAt X.mg P := TB.bm.keeps I.bk
  have hP' : s.heap.get? P = some { cls := .none, data := .fields ps } := I.hok P _ hP
  have nofr : ∀ f, s.heap.objs.size ≤ f → f ∉ frs X.stack := fun f hf z => by
    rcases List.mem_cons.mp (I.stkSub _ z) with e | e
    · have h1 := I.lt
      rw [← e] at h1
      exact Nat.lt_irrefl _ (Nat.lt_of_lt_of_le h1 hf)
    · exact I.nofs hf e
  have keepD : ∀ {h' : Heap} {H1 : Hp}, (∀ b o, b ≠ P → s.heap.get? b = some o → h'.get? b = some o) → (∀ b, b ≠ P → b < s.heap.objs.size → H b = none → H1 b = none) → DefAt h' H1 (frs X.stack) dV io := fun {h' H1} k kn => by
    cases io with
    | none => exact hD
    | some i =>
      obtain ⟨T, t, e1, e2, e3, e4⟩ := hD
      have nP : T ≠ P := fun z => by rw [z, hP'] at e2; cases e2
      exact ⟨T, t, e1, k _ _ nP e2, kn _ nP (Heap.lt_size e2) e3, e4⟩
  cases hc : codeAmong pos ps.toList with
  | none =>
    refine klx_makeTail (mg := X.mg) (c := c) (P := P) (ps := ps) (closure_ok hfree) I.ok.glob (I.mod.glob.keeps I.bk) hcode (TB.code.keeps I.bk) hP' ht hc TB.gP bP fun c' ctv h' tk hx hge hlt hrec htb => ?_
    obtain ⟨c2, oc, vs, t, e2, hoc, hd, hv⟩ := hrec
    cases e2
    have hsz : s.heap.objs.size ≤ h'.objs.size := Nat.le_trans hge (Nat.le_of_lt hlt)
    have nC : H c' = none := I.hok.fresh hge
    have kk : ∀ b o, b ≠ P → s.heap.get? b = some o → (h'.push (klx_obj (X.env.qual ++ "<lambda>") params body scope (cloFrom X.env.cells scope.names []) dV ((X.mg "__name__").getD .none) c' ctv)).get? b = some o := fun b o hb e => Heap.get?_push_of_some _ (hx b o hb e)
    have I1 := inv_table (t' := tk) (more := #[rawInt pos.line, rawInt pos.col, .ref c']) (h' := h'.push (klx_obj (X.env.qual ++ "<lambda>") params body scope (cloFrom X.env.cells scope.names []) dV ((X.mg "__name__").getD .none) c' ctv)) I hP
      kk (Heap.get?_push_of_some _ htb) hge ⟨oc, vs, t, Heap.get?_push_of_some _ hoc, hd, hv⟩
    have hE : ExtN H (L2.upd (L2.upd H P (.tbl (ps ++ #[rawInt pos.line, rawInt pos.col, .ref c']))) c' (CodeO c' (X.env.qual ++ "<lambda>"))) := fun b o e n => by
      rw [upd_ne (ne_of_none e nC), upd_ne (fun z => n ps (Option.some.inj (e.symm.trans (by rw [z]; exact hP))))]
      exact e
    have hE1 : Ext1 H (L2.upd (L2.upd H P (.tbl (ps ++ #[rawInt pos.line, rawInt pos.col, .ref c']))) c' (CodeO c' (X.env.qual ++ "<lambda>"))) := fun b o e => by
      by_cases hb : b = P
      · subst hb
        rw [hP] at e; injection e with e; subst e
        exact .inr ⟨⟨ps, rfl⟩, _, by rw [upd_ne (ne_of_none hP nC), upd_same]⟩
      · exact .inl (by rw [upd_ne (ne_of_none e nC), upd_ne hb]; exact e)
    have eL : (ps ++ #[rawInt pos.line, rawInt pos.col, .ref c']).toList = ps.toList ++ [rawInt pos.line, rawInt pos.col, .ref c'] := by simp
    refine h h'.objs.size c' ((X.mg "__name__").getD .none) ctv _ _ I1 hE1 (fun p hp => ?_) (keepD kk fun b hb hlt' hn => ?_) (Heap.get?_push_size _ rfl) ?_ (nofr _ hsz) upd_same
    · by_cases hb : p.1 = P
      · rw [hu p hp hb, hb]
        refine ⟨_, by rw [upd_ne (ne_of_none hP nC), upd_same], by rw [eL]; exact PySem.TriplesOk_snoc _ _ _ _ ht, fun p' cv hcv => ?_⟩
        rw [eL] at hcv
        rcases among_app _ ht hcv with z | z
        · obtain ⟨c0, e1, e2⟩ := ha p' cv z
          exact ⟨c0, e1, hE _ _ e2 codeO_ne⟩
        · exact ⟨c', z, upd_same⟩
      · obtain ⟨ps', a1, a2, a3⟩ := hT p hp
        refine ⟨ps', by rw [upd_ne (ne_of_none a1 nC), upd_ne hb]; exact a1, a2, fun p' cv hcv => ?_⟩
        obtain ⟨c0, e1, e2⟩ := a3 p' cv hcv
        exact ⟨c0, e1, hE _ _ e2 codeO_ne⟩
    · rw [upd_ne (show b ≠ c' from fun z => by subst z; exact Nat.lt_irrefl _ (Nat.lt_of_lt_of_le hlt' hge)), upd_ne hb]
      exact hn
    · have n1 : h'.objs.size ≠ c' := Nat.ne_of_gt hlt
      have n2 : h'.objs.size ≠ P := Nat.ne_of_gt (Nat.lt_of_lt_of_le (Heap.lt_size hP') hsz)
      rw [upd_ne n1, upd_ne n2]
      exact I.hok.fresh hsz
  | some cv =>
    obtain ⟨c', e, hco⟩ := ha pos cv hc
    subst e
    refine klx_makeTailHit (mg := X.mg) (c := c) (P := P) (ps := ps) (closure_ok hfree) I.ok.glob (I.mod.glob.keeps I.bk) hcode (TB.code.keeps I.bk) hP' ht hc bP fun ctv h' tk hx hsz => ?_
    have I1 : Inv X pins σ H { s with heap := h'.push (klx_obj (X.env.qual ++ "<lambda>") params body scope (cloFrom X.env.cells scope.names []) dV ((X.mg "__name__").getD .none) c' ctv), toks := tk } := I.kept fun b o e => Heap.get?_push_of_some _ (hx b o e)
    exact h h'.objs.size c' ((X.mg "__name__").getD .none) ctv H _ I1 Ext.rfl'.one hT (keepD (fun b o _ e => Heap.get?_push_of_some _ (hx b o e)) fun _ _ _ e => e) (Heap.get?_push_size _ rfl) (I.hok.fresh hsz) (nofr _ hsz) hco
theorem lam_make3 {T : List (Addr × Str)} {c P : Addr} {params : Arguments} {body : Expr} {scope : Scope} {pos : Pos} {io : Option Int} {E : Value → Shared → Prop} {Q : Value → Shared → Prop} (I : Inv X pins σ H s) (TB : TabB X.base X.mg c P) (hcode : X.env.code = .ref c)
    (hm : (P, X.env.qual ++ "<lambda>") ∈ T) (hu : ∀ p ∈ T, p.1 = P → p.2 = X.env.qual ++ "<lambda>") (hT : Tabs T H) (hdef : DefsOf params X.env io) (hfree : ∀ y ∈ scope.names, y.2 = .free → ∃ c, X.env.cells.lookup y.1 = some c)
    (h : ∀ (f c' : Addr) (dV pm ctv : Value) (H1 : Hp) (s' : Shared), Inv X pins σ H1 s' → Ext1 H H1 → Tabs T H1 → DefAt s'.heap H1 (frs X.stack) dV io →
      s'.heap.get? f = some (klx_obj (X.env.qual ++ "<lambda>") params body scope (cloFrom X.env.cells scope.names []) dV pm c' ctv) → H1 f = none → f ∉ frs X.stack → H1 c' = some (CodeO c' (X.env.qual ++ "<lambda>")) → Q (.ref f) s') :
    wpAny (model X.prog X.w) X.A (eval (.Lambda params body scope pos) X.env) Q E s := by
  rw [arm_eval_Lambda]
  cases io with
  | none =>
    have hdef : defaultsOf params X.env = ([], []) := hdef
    rw [hdef]
    show wpAny _ _ (do let dv ← evalAll []; let kdv ← holding dv (evalAllOpt []); makeFunction "<lambda>" (X.env.qual ++ "<lambda>") params (.expr body) scope X.env dv kdv [] pos pos.line) Q E s
    refine wpAny_bind (wpAny_pure (wpAny_bind (wpAny_holding (wpAny_pure ?_))))
    rw [makeFunction_eq]
    simp only [List.zip_nil_right, List.filterMap_nil, List.isEmpty_nil, if_true, pure_bind]
    exact lam_tail (io := none) I TB hcode hm hu hT rfl hfree fun f c' pm ctv H1 s' a b c d e f' g' h' => h f c' .none pm ctv H1 s' a b c d e f' g' h'
  | some i =>
    obtain ⟨j, p, hdef⟩ := hdef
    rw [hdef]
    show wpAny _ _ (do let dv ← evalAll [eval (.Constant (.int i) j p) X.env]; let kdv ← holding dv (evalAllOpt []); makeFunction "<lambda>" (X.env.qual ++ "<lambda>") params (.expr body) scope X.env dv kdv [] pos pos.line) Q E s
    refine wpAny_bind (wpAny_evalAll_cons ?_)
    obtain ⟨hp, g, d, t, os⟩ := s
    refine wpAny_Constant_int ?_
    refine wpAny_evalAll_nil ?_
    refine wpAny_bind (wpAny_holding (wpAny_pure ?_))
    rw [makeFunction_eq]
    simp only [List.zip_nil_right, List.filterMap_nil, List.isEmpty_nil, List.isEmpty_cons, if_true, pure_bind, Bool.false_eq_true, if_false]
    refine wpAny_bind (wpAny_newTextTuple ?_)
    have k : ∀ b o, hp.get? b = some o → (hp.push { cls := .type "tuple", data := .seq #[.int i t] }).get? b = some o := fun b o e => Heap.get?_push_of_some _ e
    have I2 : Inv X pins σ H ⟨hp.push { cls := .type "tuple", data := .seq #[.int i t] }, g, d, t + 1, os⟩ := I.kept k
    have nofr : hp.objs.size ∉ frs X.stack := fun z => by
      rcases List.mem_cons.mp (I.stkSub _ z) with e | e
      · have h1 := I.lt
        rw [← e] at h1
        exact Nat.lt_irrefl _ h1
      · exact I.nofs (Nat.le_refl _) e
    exact lam_tail (io := some i) I2 TB hcode hm hu hT ⟨hp.objs.size, t, rfl, Heap.get?_push_size _ rfl, I.hok.fresh (Nat.le_refl _), nofr⟩ hfree fun f c' pm ctv H1 s' a b c d e f' g' h' => h f c' _ pm ctv H1 s' a b c d e f' g' h'
end
end DL

set_option Elab.async false
set_option linter.all false
set_option maxRecDepth 100000
set_option maxHeartbeats 1000000
/-! DL19: a lambda called by the def that got it; f(lambda: ..). -/
namespace DL
open PySem PySem.Spec PyProof.Rows L2 LamX
/-- a lambda's names: captured ones, globals, parameters that no name of the maker's is -/
structure LamSX (N : List Str) (sc scope : Scope) : Prop where
  kind : scope.kind = .function
  co : scope.isCoroutine = false
  gen : scope.isGenerator = false
  own : ∀ y ∈ scope.names, y.2 ≠ .cell ∧ (y.2 = .local → y.1 ∉ N)
  free : ∀ y ∈ scope.names, y.2 = .free → sc.names.lookup y.1 = some .cell ∨ sc.names.lookup y.1 = some .free
theorem LamSX.has {X : Cx} {scope : Scope} (L : LamSX X.N X.env.scope scope) (ok : X.Ok) : ∀ y ∈ scope.names, y.2 = .free → ∃ c, X.env.cells.lookup y.1 = some c := fun y hy e => by
  rcases L.free y hy e with k | k
  · exact ok.has _ (.inl k)
  · exact ok.has _ (.inr k)
section
variable {X : Cx} {pins : List (Addr × Obj)} {σ : L2.St} {H HZ : Hp} {s s1 : Shared}
theorem lam_start3 {A : Around} {outer : List Env} {E : XK} {scope : Scope} {f c' : Addr} {h₁ : Heap} {tk : Nat} {mm : Str → Option Value} (I : Inv X pins σ H s) (L : LamSX X.N X.env.scope scope) (e0 : Env0 X.prog X.w X.K X.mg X.base A outer s1 HZ) (hd : A.handled = none)
    (un : Un (frs X.stack) [] H HZ s.heap s1.heap) (hns : h₁.Ns s1.heap.objs.size mm) (kp : ∀ b o, s1.heap.get? b = some o → h₁.get? b = some o) :
    Inv (lamCx X A outer s1 HZ E scope f c') [] σ HZ { s1 with heap := h₁, toks := tk } := by
  have hfree := L.has I.ok
  have cm : ∀ {y c}, (cloFrom X.env.cells scope.names []).lookup y = some c → X.env.cells.lookup y = some c := fun {y c} e => by
    rcases cloFrom_mem (PySem.mem_of_lookup e) with hm | ⟨h1, h2⟩
    · cases hm
    · obtain ⟨c1, hc⟩ := hfree _ h1 rfl
      have hc : X.env.cells.lookup y = some c1 := hc
      have e2 : c = c1 := by
        rw [h2, hc] <;> rfl
      rw [e2]
      exact hc
  have look : ∀ {y}, scope.names.lookup y = some .free → ∃ c, (cloFrom X.env.cells scope.names []).lookup y = some c := fun {y} hl => by
    have hy : (y, NameKind.free) ∈ scope.names := PySem.mem_of_lookup hl
    exact mem_lookup (cloFrom_has (cells := X.env.cells) (acc := []) hy)
  have cellK : ∀ {c : Addr} {v : Option Value}, H c = none → s.heap.IsCell c v → h₁.IsCell c v := fun {c v} n ⟨o, ho, hd⟩ => by
    obtain ⟨sl, q⟩ := un.any ho n (by simp)
    exact ⟨_, kp _ _ q, hd⟩
  have noA : ∀ b : Addr, b ∉ (lamCx X A outer s1 HZ E scope f c').ex := fun b z => absurd (show b ∈ ([] : List Addr) from z) (by simp)
  refine ⟨⟨e0.mod, L.kind, rfl, rfl, Nat.le_refl _, fun y z c e1 e2 => I.ok.inj y z c (cm e1) (cm e2), fun y hy => ?_, fun y c z _ => ?_, fun _ => hd, Around.frames_deeper e0.frames, .inr ⟨rfl, rfl⟩, fun b z => absurd z (noA b), e0.bs, e0.bsz, fun b _ _ => noA b,
      fun b z => absurd z (noA b), e0.funs, e0.frf⟩,
    rfl, e0.bare, Un.kept kp, ⟨_, hns, fun i y v e1 e2 e3 => ?_⟩, fun y c e => ?_, e0.hok.fresh (Nat.le_refl _), fun y c e => ?_, fun q hq => absurd (show q ∈ ([] : List (Addr × Obj)) ++ [] from hq) (by simp), e0.hok.kept kp, I.len⟩
  · have hy : scope.names.lookup y = some .cell ∨ scope.names.lookup y = some .free := hy
    rcases hy with hy | hy
    · exact absurd rfl (L.own _ (PySem.mem_of_lookup hy)).1
    · exact look hy
  · have z : false = true := z
    cases z
  · have e3 : Vis scope y := e3
    rcases e3 with k | k | k
    · exact absurd (List.mem_of_getElem? e1) ((L.own _ (PySem.mem_of_lookup k)).2 rfl)
    · exact absurd rfl (L.own _ (PySem.mem_of_lookup k)).1
    · obtain ⟨m, hn, hl⟩ := I.loc
      have hvis : Vis X.env.scope y := (L.free _ (PySem.mem_of_lookup k) rfl).elim (fun k => .inr (.inl k)) (fun k => .inr (.inr k))
      obtain ⟨w', r, q⟩ := hl i y v e1 e2 hvis
      obtain ⟨c2, h2⟩ := look k
      refine ⟨w', r, .inr ⟨.inr k, c2, h2, ?_⟩⟩
      have c1 := cm h2
      rcases q with ⟨k', _⟩ | ⟨_, c3, e', z⟩
      · have k' : X.env.scope.names.lookup y = some .local := k'
        rcases L.free _ (PySem.mem_of_lookup k) rfl with k2 | k2 <;> rw [show X.env.scope.names.lookup y = _ from k2] at k' <;> cases k'
      · rw [c1] at e'
        cases e'
        exact cellK (I.freeC y _ c1) z
  · obtain ⟨w', z⟩ := I.cell y c (cm e)
    exact ⟨w', cellK (I.freeC y c (cm e)) z⟩
  · obtain ⟨v, o, ho, hd⟩ := I.cell y c (cm e)
    exact un.free c o ho (I.freeC y c (cm e)) (by simp)
/-- the parameters of the text are bound: none, or the default -/
def BindsL (params : Arguments) (body : Expr) (scope : Scope) (io : Option Int) : Prop := ∀ (s : Shared) (q : Str) (cl : List (Str × Addr)) (dV pm cdv ct : Value),
  (match io with | none => dV = .none | some i => ∃ (T : Addr) (t : Tok), dV = .ref T ∧ s.heap.get? T = some { cls := .type "tuple", data := .seq #[.int i t] }) →
  ∃ bs : List (Str × Value), BindsTo s (klx_fn q params body scope cl dV pm cdv ct) ⟨[], []⟩ bs ∧ ∀ y ∈ bs, scope.names.lookup y.1 = some .local
/-- the lambda at f is run from any state behind s -/
def Runs (X : Cx) (σ : L2.St) (f c' : Addr) (q : Str) (k : Nat) (s : Shared) (H : Hp) (tb : XK → TE) : Prop :=
  ∀ (A : Around) (outer : List Env) (s1 : Shared) (HZ : Hp) (Q : VK) (E : XK), Room (k + 1) A → Env0 X.prog X.w X.K X.mg X.base A outer s1 HZ → Un (frs X.stack) [] H HZ s.heap s1.heap → HZ c' = some (CodeO c' q) → tb E σ HZ Q →
    codeAny (model X.prog X.w) A (.call (.ref f) ⟨[], []⟩) (CR (L2.CX X.prog X.w) outer X.prog X.w HZ s1 Q E) s1
theorem lam_runs {f c' : Addr} {dV pm ctv : Value} {params : Arguments} {body : Expr} {scope : Scope} {io : Option Int} {k : Nat} {tb : XK → TE} (I : Inv X pins σ H s) (L : LamSX X.N X.env.scope scope) (hD : DefAt s.heap H (frs X.stack) dV io)
    (hf : s.heap.get? f = some (klx_obj (X.env.qual ++ "<lambda>") params body scope (cloFrom X.env.cells scope.names []) dV pm c' ctv)) (hfn : H f = none) (hfr : f ∉ frs X.stack) (hbind : BindsL params body scope io)
    (hbody : ∀ (A : Around) (outer : List Env) (s : Shared) (H : Hp) (E : XK), Room k (A.deeper (lamEnv X scope s.heap.objs.size f c')) → PE (lamCx X A outer s H E scope f c') body (tb E)) :
    Runs X σ f c' (X.env.qual ++ "<lambda>") k s H tb := fun A outer s1 HZ Q E hr e0 un hc ht => by
  have of1 : s1.heap.get? f = some (klx_obj (X.env.qual ++ "<lambda>") params body scope (cloFrom X.env.cells scope.names []) dV pm c' ctv) := un.keep f _ hf hfn hfr (fun z => nomatch z)
  obtain ⟨⟨oc, vs, t, hoc, hdc, hvc⟩, _, _⟩ := e0.hok c' _ hc
  refine PySem.W.kla_callFunE hr.depth of1 rfl L.co L.gen rfl ⟨c', oc, vs, t, rfl, hoc, hdc, hvc⟩ ?_
  obtain ⟨bs, hbs, hloc⟩ := hbind s1 (X.env.qual ++ "<lambda>") (cloFrom X.env.cells scope.names []) dV pm (.ref c') ctv (by
    cases io with
    | none => exact hD
    | some i =>
      obtain ⟨T, t, e1, e2, e3, e4⟩ := hD
      exact ⟨T, t, e1, un.keep T _ e2 e3 e4 (fun z => nomatch z)⟩)
  refine hbs _ _ _ _ ?_
  have lim : s1.heap.NoLimit := e0.mod.nolimit.keeps fun b o e => (e0.bs b o e).1
  refine wpAny_newFunctionEnv (fun y hy => (L.own y hy).1) hloc (fun h₁ hns hsb => ⟨lim.fresh _ hsb, ?_⟩) L.kind
  show codeAny _ _ (.expr body (lamEnv X scope s1.heap.objs.size f c')) _ _
  have kp : ∀ b o, s1.heap.get? b = some o → h₁.get? b = some o := fun b o e => hsb.extBut b o (Nat.ne_of_lt (Heap.lt_size e)) (Heap.get?_push_of_some _ e)
  have J : Inv (lamCx X A outer s1 HZ E scope f c') [] σ HZ { s1 with heap := h₁, toks := s1.toks + bs.length } := lam_start3 I L e0 hr.hd un hns kp
  refine PySem.W.kla_codeExpr (wpAny_mono ((hbody _ _ s1 HZ E (hr.deeper _)).run [] _ _ HZ Q J ht) (fun v s' hq => ?_) fun e s' hq => hq)
  obtain ⟨w', H', J', rv, q⟩ := hq
  exact ⟨w', H', J'.os, J'.bare, J'.base, J'.hok, rv, q⟩
end
end DL
namespace DL
open PySem PySem.Spec PyProof.Rows L2 LamX
/-- the shared slots alone -/
def shOnly (env : EV) : EV := env.map fun r => match r with
  | some (d, .s) => some (d, .s)
  | _ => none
theorem shOnly_get {env : EV} {i : Nat} {d : D} {t : Tag} (h : (shOnly env)[i]? = some (some (d, t))) : t = .s ∧ env[i]? = some (some (d, .s)) := by
  unfold shOnly at h
  rw [List.getElem?_map] at h
  cases q : env[i]? with
  | none => rw [q] at h; cases h
  | some r =>
    rw [q] at h
    injection h with h
    cases r with
    | none => cases h
    | some dt =>
      obtain ⟨d', t'⟩ := dt
      cases t' with
      | s => injection h with h; injection h with h1 h2; subst h1; subst h2; exact ⟨rfl, rfl⟩
      | o => cases h
      | p => cases h
def toRC : RE → RC
  | .ok d o _ => .ok d o none
  | .exc c fs _ => .exc c fs none
  | .bad => .bad
open Classical in
/-- ask(), ask the thunk in slot 0 -/
noncomputable def mAsk (f : Addr) (H1 : Hp) (S1 : Sset) (r : RC) : ME := fun env =>
  if env[0]? = some (some (.thk f H1 S1, .s)) then (match r with
    | .ok d _ _ => .ok d false env
    | .exc c fs _ => .exc c fs env
    | .bad => .bad) else .bad
section
variable {G : Ctx} {g : Gh} {σ : L2.St} {H H1 : Hp} {env : EV} {S : Sset} {P : List (Addr × D)} {a : Addr}
/-- tables grow -/
theorem SI.tabN (I : SI G g σ H env S P) (e : Ext1 H H1) (t : Tabs G.T H1) : SI G g σ H1 env S P ∧ Grow S H S H1 := by
  have gr : Grow S H S H1 := I.grow1 e S fun _ h => h
  have ow : ∀ b d, Own G H S b d → Own G H1 S b d := fun b d ⟨h1, h2⟩ => by
    obtain ⟨o, ho⟩ := h2.some
    exact ⟨h1, h2.mono gr (((e b o ho).nt fun ps z => h2.nt ps (ho.trans z)).trans ho.symm)⟩
  refine ⟨⟨I.len, fun i d h => ?_, fun i d u hu h => ?_, I.uniq, I.pin, I.pin0, fun p hp => ⟨ow _ _ (I.pend p hp).1, (I.pend p hp).2⟩, I.pun, I.pdis, fun b o h1 h2 => (I.fr b o h1 h2).ext e, I.sh0, I.sh1, fun b hb => ?_, t, fun b hb ps z => ?_⟩, gr⟩
  · obtain ⟨v, h1, h2⟩ := I.shr i d h
    exact ⟨v, h1, h2.mono gr⟩
  · obtain ⟨a, h1, h2, h3⟩ := I.own i d u hu h
    exact ⟨a, h1, ow _ _ h2, h3⟩
  · obtain ⟨o, ho⟩ := I.shH b hb
    exact ⟨o, (gr b hb).2.trans ho⟩
  · rw [(gr b hb).2] at z
    exact I.nt b hb ps z
/-- a code object is shared from now on -/
theorem SI.addExt {φ} (I : SI G g σ H env S P) (h : H a = some (.ext φ)) : SI G g σ H env (Or1 S (One a)) P := by
  have ow : ∀ {b : Addr} {e : D}, Own G H S b e → Own G H (Or1 S (One a)) b e := fun {b e} q => own_one (fun z => q.2.ne_ext φ (z ▸ h)) q
  refine ⟨I.len, fun i d q => ?_, fun i d u hu q => ?_, I.uniq, I.pin, I.pin0, fun p hp => ⟨ow (I.pend p hp).1, (I.pend p hp).2⟩, I.pun, I.pdis, I.fr, fun b hb => .inl (I.sh0 b hb), fun b hb => ?_, fun b hb => ?_, I.tab, fun b hb ps z => ?_⟩
  · obtain ⟨v, h1, h2⟩ := I.shr i d q
    exact ⟨v, h1, h2.mono (grow_one S H)⟩
  · obtain ⟨b, h1, h2, h3⟩ := I.own i d u hu q
    exact ⟨b, h1, ow h2, h3⟩
  · rcases hb with hb | hb
    · exact I.sh1 b hb
    · have hb : b = a := hb
      subst hb; exact I.sh1_ext h
  · rcases hb with hb | hb
    · exact I.shH b hb
    · have hb : b = a := hb
      subst hb; exact ⟨_, h⟩
  · rcases hb with hb | hb
    · exact I.nt b hb ps z
    · have hb : b = a := hb
      subst hb; rw [h] at z; cases z
/-- the maker's shared slots, seen from a callee -/
theorem SI.seen {gZ : Gh} {σZ : L2.St} {HZ : Hp} {envZ : EV} {SZ : Sset} {PZ : List (Addr × D)} (I : SI G g σ H env S P) (gr : Grow S H SZ HZ) (J : SI G gZ σZ HZ envZ SZ PZ) : SI G ⟨HZ, SZ, none, false⟩ σ HZ (shOnly env) SZ [] := by
  refine ⟨by unfold shOnly; rw [List.length_map]; exact I.len, fun i d q => ?_, fun i d t ht q => absurd (shOnly_get q).1 ht, fun i j d e t u a ht _ q => absurd (shOnly_get q).1 ht, fun i d q => (nomatch (shOnly_get q).1), fun a h => (nomatch h), fun p hp => (nomatch hp), List.nodup_nil, fun p hp => (nomatch hp), fun a o h _ => .inl h, fun a h => h, fun a h => .inl h, J.shH, J.tab, J.nt⟩
  obtain ⟨v, h1, h2⟩ := I.shr i d (shOnly_get q).2
  exact ⟨v, h1, h2.mono gr⟩
end
section
variable {X : Cx} {G : Ctx} {W : WX}
/-- ask(), in the def that got the lambda -/
theorem pe_act3 {CXg : CXT} {Eg : XK} {Ng : List Str} {qg : Str} {sg : Scope} {gg f c' : Addr} {cdg : Value} {k : Nat} {a q : Str} {pn : List (Addr × Obj)} {xe : Value → Shared → Prop} {tb : XK → TE} {p1 p2 : Pos} {σ : L2.St} {s : Shared} {H : Hp}
    (hfa : PySem.W.FnAt f s.heap) (hfn : H f = none) (hfr : f ∉ frs X.stack) (hru : Runs X σ f c' q k s H tb)
    (tk : Takes ((cxOf CXg X.prog X.w X.K X.mg X.base Ng qg sg gg cdg X.A X.stack s H Eg).tr pn xe) W) (hr : Room (k + 1) (X.A.deeper (envOfC qg sg s.heap.objs.size gg cdg)))
    (hN : Ng[0]? = some a) (hv : Vis sg a) (hd : (a == ("__debug__" : Str)) = false) (hcd : (a == ("__classdict__" : Str)) = false) :
    PE ((cxOf CXg X.prog X.w X.K X.mg X.base Ng qg sg gg cdg X.A X.stack s H Eg).tr pn xe) (.Call (.Name a p1) [] [] p2)
      (fun σZ HZ Q => σZ[0]? = some (some (.ref f)) ∧ HZ c' = some (CodeO c' q) ∧ tb (fun cls dd H => W cls dd σZ H) σ HZ Q) := by
  refine ⟨fun pinsZ sZ σZ HZ Q IZ h => ?_⟩
  obtain ⟨hs, hc, ht⟩ := h
  refine wpAny_Call_Name_kw (thn ((pe_var (pos := p1) (i := 0) hN hv hd hcd).run pinsZ sZ σZ HZ (fun v H1 => v = .ref f ∧ H1 = HZ) IZ ⟨.ref f, hs, rfl, rfl⟩) fun u s1 ⟨v, H1, I1, r1, q1⟩ => ?_)
  obtain ⟨ev, eH⟩ := q1
  subst ev
  rw [eH] at I1
  obtain rfl : u = Value.ref f := r1
  have un : Un (frs X.stack) [] H HZ s.heap s1.heap := I1.base
  obtain ⟨z1, z2, z3, z4, z5⟩ := hfa
  refine PySem.W.callWith_F0 ⟨_, _, _, _, un.keep f _ z5 hfn hfr (fun z => nomatch z)⟩ ?_
  have rc := hru (X.A.deeper (envOfC qg sg s.heap.objs.size gg cdg)) (envOfC qg sg s.heap.objs.size gg cdg :: X.stack) s1 HZ Q (fun cls dd H => W cls dd σZ H) hr I1.env0 un hc ht
  have hx := passAt tk σZ
  refine wpAny_call (codeAny_mono rc fun r s' hq => ?_)
  cases r with
  | error e => exact hx pinsZ HZ s1 e s' I1 hq
  | ok fl =>
    cases fl with
    | ret u => exact I1.after hq
    | next => exact False.elim hq
    | brk => exact False.elim hq
    | cont => exact False.elim hq
theorem de_ask {Ng : List Str} {qg : Str} {sg : Scope} {gg f c' : Addr} {cdg : Value} {Eg : XK} {k : Nat} {a q : Str} {pn : List (Addr × Obj)} {xe : Value → Shared → Prop} {p1 p2 : Pos} {σ : L2.St} {s : Shared} {H1 : Hp} {S0 : Sset} {env0 : EV} {g0 : Gh} {P0 : List (Addr × D)} {mb : ME}
    (hfa : PySem.W.FnAt f s.heap) (hfn : H1 f = none) (hfr : f ∉ frs X.stack) (hru : Runs X σ f c' q k s H1 fun E => trE G (WD E) mb) (I0 : SI G g0 σ H1 env0 S0 P0) (hc : H1 c' = some (CodeO c' q))
    (tk : Takes ((cxOf (L2.CX X.prog X.w) X.prog X.w X.K X.mg X.base Ng qg sg gg cdg X.A X.stack s H1 Eg).tr pn xe) W) (hr : Room (k + 1) (X.A.deeper (envOfC qg sg s.heap.objs.size gg cdg)))
    (hN : Ng[0]? = some a) (hv : Vis sg a) (hd : (a == ("__debug__" : Str)) = false) (hcd : (a == ("__classdict__" : Str)) = false) :
    DE ((cxOf (L2.CX X.prog X.w) X.prog X.w X.K X.mg X.base Ng qg sg gg cdg X.A X.stack s H1 Eg).tr pn xe) G W (.Call (.Name a p1) [] [] p2) (mAsk f H1 (Or1 S0 (One c')) (toRC (mb (shOnly env0)))) :=
  peImp (pe_act3 hfa hfn hfr hru tk hr hN hv hd hcd) fun σZ HZ Q ⟨g, env, S, P, I, h⟩ => by
    unfold mAsk at h
    by_cases he : env[0]? = some (some (D.thk f H1 (Or1 S0 (One c')), Tag.s))
    · rw [if_pos he] at h
      obtain ⟨v, h1, h2⟩ := I.shr 0 _ he
      cases h2 with
      | thk gr =>
        have gr0 : Grow S0 H1 S HZ := fun b hb => gr b (.inl hb)
        have J := I0.seen gr0 I
        refine ⟨h1, (gr c' (.inr rfl)).2.trans hc, _, shOnly env0, S, [], J, ?_⟩
        cases qm : mb (shOnly env0) with
        | bad => simp only [qm, toRC] at h; exact h.elim
        | exc c fs e =>
          simp only [qm, toRC] at h
          intro cls dd H' S' gr' J' er
          obtain ⟨I', gr2⟩ := I.call0 J'
          exact h cls dd H' S' gr2 I' er
        | ok d o e =>
          simp only [qm, toRC] at h
          intro w H' S' gr' hv
          obtain ⟨S2, g2, J2, r2⟩ := hv.frz
          obtain ⟨I', gr3⟩ := I.call0 J2
          exact h w H' S2 gr3 ⟨I', r2⟩
    · rw [if_neg he] at h
      exact h.elim
/-- x(lambda: body); hv: what the def x makes of the thunk's answer -/
def mHeard (hv : RC → RC) (mb : ME) : ME := fun env => ansE none (hv (toRC (mb (shOnly env)))) env
theorem de_heard {x a : Str} {g c P : Addr} {k : Nat} {pg : Arguments} {bg : List Stmt} {sg : Scope} {dV kV doc pm cdv ct oc : Value} {an od : Option Addr} {osl : Array (Option Value)} {Ng : List Str}
    {params : Arguments} {body : Expr} {scope : Scope} {io : Option Int} {mb : ME} {mh : ME → MS} {hv : RC → RC} {p lpos pos : Pos} (hg : Gl X x) (hm : X.mg x = some (.ref g)) (hk : PySem.W.keepIn X.K (.ref g) = true)
    (lk : X.K.lookup g = some ⟨oc, od, .func (PySem.W.fnOf x x pg bg sg dV kV doc pm an cdv ct), osl⟩) (hcg : PySem.W.codeIn X.K cdv x = true) (hb : L2.Binds X.K (PySem.W.fnOf x x pg bg sg dV kV doc pm an cdv ct) [a] []) (Sg : FnScope Ng [a] sg) (hNg : Ng[0]? = some a) (hva : Vis sg a)
    (TB : TabB X.base X.mg c P) (hcode : X.env.code = .ref c) (hmT : (P, X.env.qual ++ "<lambda>") ∈ G.T) (hu : ∀ p ∈ G.T, p.1 = P → p.2 = X.env.qual ++ "<lambda>") (hr : Room (k + 2) X.A) (L : LamSX X.N X.env.scope scope) (hdef : DefsOf params X.env io) (hbind : BindsL params body scope io) (tk : Takes X W)
    (hbody : ∀ (A : Around) (outer : List Env) (s : Shared) (H : Hp) (E : XK) (f c' : Addr), Room k (A.deeper (lamEnv X scope s.heap.objs.size f c')) → Takes (lamCx X A outer s H E scope f c') (WD E) → DE (lamCx X A outer s H E scope f c') G (WD E) body mb)
    (hG : ∀ (s : Shared) (H : Hp) (E : XK) (ma : ME), Room (k + 1) (X.A.deeper (envOfC x sg s.heap.objs.size g cdv)) → Takes (cxOf (L2.CX X.prog X.w) X.prog X.w X.K X.mg X.base Ng x sg g cdv X.A X.stack s H E) (WD E) →
      (∀ (W : WX) (pn : List (Addr × Obj)) (xe : Value → Shared → Prop) (p1 p2 : Pos), Takes ((cxOf (L2.CX X.prog X.w) X.prog X.w X.K X.mg X.base Ng x sg g cdv X.A X.stack s H E).tr pn xe) W → DE ((cxOf (L2.CX X.prog X.w) X.prog X.w X.K X.mg X.base Ng x sg g cdv X.A X.stack s H E).tr pn xe) G W (.Call (.Name a p1) [] [] p2) ma) →
      DSs (cxOf (L2.CX X.prog X.w) X.prog X.w X.K X.mg X.base Ng x sg g cdv X.A X.stack s H E) G (WD E) bg (mh ma))
    (hhv : ∀ f H1 S1 r, mkFn Ng.length false (mh (mAsk f H1 S1 r)) [.thk f H1 S1] = hv r)
    (hdb : (x == ("__debug__" : Str)) = false := by decide) (hd : (a == ("__debug__" : Str)) = false := by decide) (hcd : (a == ("__classdict__" : Str)) = false := by decide) :
    DE X G W (.Call (.Name x p) [.Lambda params body scope lpos] [] pos) (mHeard hv mb) := by
  refine ⟨fun pins s σ H Q I h => ?_⟩
  obtain ⟨gh, env, S, P, I0, h⟩ := h
  refine wpAny_Call_Name_kw (ld_glob I hg hm ?_ hdb)
  refine PySem.W.callWith_K (h₀ := X.base) I.ok.mod.kin hk ?_ (by rfl) (by rfl)
  show wpAny _ _ (spliced ((false, eval (.Lambda params body scope lpos) X.env) :: backTo pos (starEach [] X.env))) _ _ s
  refine Calls.spliced_cons (lam_make3 I TB hcode hmT hu I0.tab hdef (L.has I.ok) fun f c' dV' pm' ctv H1 s' I1 eN T1 hD hf hfn hfr hco => ?_)
  refine Calls.spliced_nil ⟨I1.kIn, ?_⟩
  obtain ⟨I0', gr⟩ := I0.tabN eN T1
  have I2 := I0'.addExt (show H1 c' = some (.ext _) from hco)
  have gr2 : Grow S H (Or1 S (One c')) H1 := gr.trans (grow_one S H1)
  have hfa : PySem.W.FnAt f s'.heap := ⟨_, _, _, _, hf⟩
  have hru := lam_runs (tb := fun E => trE G (WD E) mb) I1 L hD hf hfn hfr hbind fun A outer s H E hr => hbody A outer s H E f c' hr (takes_of rfl rfl rfl rfl)
  have h := h.mono gr2
  unfold mHeard at h
  rw [← hhv f H1 (Or1 S (One c')) (toRC (mb (shOnly env)))] at h
  have sp := sp_call (n := 1) I2 (.cons (.thk (Grow.rfl')) .nil) rfl h
  have rc : codeAny (model X.prog X.w) X.A (.call (.ref g) ⟨[.ref f], []⟩) (CR (L2.CX X.prog X.w) X.stack X.prog X.w H1 s' Q (fun cls dd H => W cls dd σ H)) s' := by
    refine run_ofS (N := Ng) (ps := [a]) (us := [.ref f]) (vs := [.ref f]) lk hcg Sg hr I1.env0 (hb s' [.ref f] I1.kIn rfl) (.cons rfl .nil) rfl fun hr' => ?_
    refine ⟨_, hG s' H1 (fun cls dd H => W cls dd σ H) _ hr' (takes_of rfl rfl rfl rfl) fun W' pn xe p1 p2 tk' => de_ask hfa hfn hfr hru I0' hco tk' hr' hNg hva hd hcd, ?_⟩
    refine sp_start (W := W) sp ?_
    have : Ng ≠ [] := fun z => by rw [z] at hNg; cases hNg
    exact List.length_pos_iff.mpr this
  have hx := passAt tk σ
  refine wpAny_call (codeAny_mono rc fun r s2 hq => ?_)
  cases r with
  | error e => exact hx pins _ _ e s2 I1 hq
  | ok fl =>
    cases fl with
    | ret u => exact I1.after hq
    | next => exact False.elim hq
    | brk => exact False.elim hq
    | cont => exact False.elim hq
end
end DL

set_option Elab.async false
set_option linter.all false
set_option maxRecDepth 100000
set_option maxHeartbeats 1000000
/-! DL20: repr(a) != repr(b) of like data; == and != by an own __eq__. -/
namespace DL
open PySem PySem.Spec PyProof.Rows L2
mutual
theorem pyD_nodict : ∀ {d : D} {p : PyData}, pyD d = some p → p.hasDict = false
  | .non, _, e => by simp only [pyD] at e; cases e; rfl
  | .bl _, _, e => by simp only [pyD] at e; cases e; rfl
  | .int _, _, e => by simp only [pyD] at e; cases e; rfl
  | .str _, _, e => by simp only [pyD] at e; cases e; rfl
  | .lst xs, _, e => by
    cases q : pyL xs with
    | none => simp [pyD, q] at e
    | some ps => simp [pyD, q] at e; subst e; simp only [PyData.hasDict]; exact pyL_nodict q
  | .tup xs, _, e => by
    cases q : pyL xs with
    | none => simp [pyD, q] at e
    | some ps => simp [pyD, q] at e; subst e; simp only [PyData.hasDict]; exact pyL_nodict q
  | .dct _, _, e => by simp [pyD] at e
  | .dtt _, _, e => by simp [pyD] at e
  | .obj _ _, _, e => by simp [pyD] at e
  | .scr _, _, e => by simp [pyD] at e
  | .exc _ _, _, e => by simp [pyD] at e
  | .thk _ _ _, _, e => by simp [pyD] at e
theorem pyL_nodict : ∀ {ds : List D} {ps : List PyData}, pyL ds = some ps → PyData.hasDictAll ps = false
  | [], _, e => by simp only [pyL] at e; cases e; rfl
  | d :: r, _, e => by
    simp only [pyL] at e
    cases q1 : pyD d with
    | none => simp [q1] at e
    | some p =>
      cases q2 : pyL r with
      | none => simp [q1, q2] at e
      | some ps => simp [q1, q2] at e; subst e; simp only [PyData.hasDictAll, pyD_nodict q1, pyL_nodict q2, Bool.or_false]
end
/-- data whose repr can be told: not too deep, not too long -/
def rprOk (p : PyData) : Bool := p.showable && (decide (p.depth + 1 ≤ 66) && decide (p.shown.length ≤ sizeLine))
section
variable {X : Cx} {G : Ctx} {W : WX}
theorem call_rpr (hg : X.A.guards = some []) (hu : X.A.units + 66 < cLine) : CallR X (.builtin "repr") (fun xs H Q => ∃ a p, xs = [.ref a] ∧ Dp X.K H (.ref a) p ∧ rprOk p = true ∧ p.hasDict = false ∧ Q (.str p.shown) H) := by
  intro pins s σ H xs us Q I r h
  obtain ⟨a, p, rfl, hd, hk, hn, q⟩ := h
  obtain ⟨u, rfl, r1⟩ := Vals.one r
  cases r1
  obtain ⟨as, rd⟩ := Dp.reads I p _ _ hd rfl
  unfold rprOk at hk
  obtain ⟨k1, k2⟩ := Bool.and_eq_true_iff.mp hk
  obtain ⟨k2, k3⟩ := Bool.and_eq_true_iff.mp k2
  have k2 := of_decide_eq_true k2
  exact repr_of_reads' rd k1 (fun z => by rw [hn] at z; cases z) hg (by omega) (fun _ _ e => e) (fun h' u tk k => ⟨.str p.shown, H, I.kept k, ⟨u, rfl⟩, q⟩) (of_decide_eq_true k3)
def isRoot : D → Bool
  | .lst _ => true
  | .tup _ => true
  | _ => false
open Classical in
/-- repr(a) != repr(b), a and b alike (neg: !=) -/
noncomputable def mRpr (neg : Bool) (m1 m2 : ME) : ME := bindE m1 fun x => if isRoot x = true ∧ ∃ p, pyD x = some p ∧ rprOk p = true then bindE m2 fun y env => if x = y then .ok (.bl (!neg)) false env else .bad else fun _ => .bad
theorem root_ref {H : Hp} {S : Sset} {v : V} {d : D} (h : isRoot d = true) (r : RepB G H S v d) : ∃ a, v = .ref a := by
  rcases r with r | ⟨a, rfl, _⟩
  · cases r <;> first | exact ⟨_, rfl⟩ | cases h
  · exact ⟨a, rfl⟩
theorem tRpr_ok {neg : Bool} {r : R2} {m1 m2 : ME} (hK : G.K = X.K) (hr : ∀ s t H Q, Q (.bl (if neg = true then !decide (V.str s = V.str t) else decide (V.str s = V.str t))) H → r (.str s) (.str t) H Q) {σ : L2.St} {H : Hp} {Q : VK} (h : trE G W (mRpr neg m1 m2) σ H Q) :
    tOp r (tCB (fun xs H Q => ∃ a p, xs = [.ref a] ∧ Dp X.K H (.ref a) p ∧ rprOk p = true ∧ p.hasDict = false ∧ Q (.str p.shown) H) (tCons (trE G W m1) tNil)) (tCB (fun xs H Q => ∃ a p, xs = [.ref a] ∧ Dp X.K H (.ref a) p ∧ rprOk p = true ∧ p.hasDict = false ∧ Q (.str p.shown) H) (tCons (trE G W m2) tNil)) σ H Q := by
  obtain ⟨g, env, S, P, I, h⟩ := h
  show trE G W m1 σ H fun v H1 => ∃ a p, [v] = [.ref a] ∧ Dp X.K H1 (.ref a) p ∧ rprOk p = true ∧ p.hasDict = false ∧ trE G W m2 σ H1 fun w H2 => ∃ b q, [w] = [.ref b] ∧ Dp X.K H2 (.ref b) q ∧ rprOk q = true ∧ q.hasDict = false ∧ r (.str p.shown) (.str q.shown) H2 Q
  refine bindE_ok I h fun x env1 v H1 S1 gr I1 r1 h => ?_
  split at h
  · rename_i hc
    obtain ⟨c1, p, c2, c3⟩ := hc
    obtain ⟨a, rfl⟩ := root_ref c1 r1.b
    refine ⟨a, p, rfl, (pyD_okB hK r1.b c2).1, c3, pyD_nodict c2, ?_⟩
    refine bindE_ok I1 h fun y env2 w H2 S2 gr2 I2 r2 h => ?_
    split at h
    · rename_i he
      subst he
      obtain ⟨b, rfl⟩ := root_ref c1 r2.b
      refine ⟨b, p, rfl, (pyD_okB hK r2.b c2).1, c3, pyD_nodict c2, hr _ _ _ _ ?_⟩
      have e0 : (if neg = true then !decide (V.str p.shown = V.str p.shown) else decide (V.str p.shown = V.str p.shown)) = !neg := by cases neg <;> simp
      rw [e0]
      exact h _ H2 S2 Grow.rfl' ⟨I2, .bl⟩
    · exact h.elim
  · exact h.elim
theorem de_rpr {neg : Bool} {op : CmpOp} {e1 e2 : Expr} {m1 m2 : ME} {pos q1 q2 q3 q4 : Pos} (hop : op = if neg then .NotEq else .Eq) (hK : G.K = X.K) (hgu : X.A.guards = some []) (hu : X.A.units + 66 < cLine) (hg : Gl X "repr") (hm : X.mg "repr" = none) (h1 : DE X G W e1 m1) (h2 : DE X G W e2 m2)
    (hs1 : starEach (e1 :: []) X.env = (false, eval e1 X.env) :: starEach [] X.env := by rfl) (hs2 : starEach (e2 :: []) X.env = (false, eval e2 X.env) :: starEach [] X.env := by rfl) (hp1 : (backTo q2 (starEach [] X.env)).any (·.1) = false := by rfl) (hp2 : (backTo q4 (starEach [] X.env)).any (·.1) = false := by rfl)
    (hmk : behindInMarks op (.Call (.Name "repr" q3) [e2] [] q4) = false := by rfl) :
    DE X G W (.Compare (.Call (.Name "repr" q1) [e1] [] q2) [op] [.Call (.Name "repr" q3) [e2] [] q4] pos) (mRpr neg m1 m2) := by
  have c1 := pe_callB (pos := q2) (p := q1) (call_rpr hgu hu) hg hm (by decide +kernel) (pa_cons h1 pa_nil hs1) (by decide) (by decide) hs1 hp1
  have c2 := pe_callB (pos := q4) (p := q3) (call_rpr hgu hu) hg hm (by decide +kernel) (pa_cons h2 pa_nil hs2) (by decide) (by decide) hs2 hp2
  cases neg with
  | true =>
    subst hop
    exact peImp (pe_cmpR op_ne c1 c2 hmk) fun σ H Q h => tRpr_ok (neg := true) (r := rNe) hK (fun s t H Q q => ⟨rfl, q⟩) h
  | false =>
    subst hop
    exact peImp (pe_cmpR op_eq c1 c2 hmk) fun σ H Q h => tRpr_ok (neg := false) (r := rEq) hK (fun s t H Q q => ⟨rfl, q⟩) h
theorem dt_rpr {neg : Bool} {op : CmpOp} {e1 e2 : Expr} {m1 m2 : ME} {pos q1 q2 q3 q4 : Pos} (hop : op = if neg then .NotEq else .Eq) (hK : G.K = X.K) (hgu : X.A.guards = some []) (hu : X.A.units + 66 < cLine) (hg : Gl X "repr") (hm : X.mg "repr" = none) (h1 : DE X G W e1 m1) (h2 : DE X G W e2 m2)
    (hs1 : starEach (e1 :: []) X.env = (false, eval e1 X.env) :: starEach [] X.env := by rfl) (hs2 : starEach (e2 :: []) X.env = (false, eval e2 X.env) :: starEach [] X.env := by rfl) (hp1 : (backTo q2 (starEach [] X.env)).any (·.1) = false := by rfl) (hp2 : (backTo q4 (starEach [] X.env)).any (·.1) = false := by rfl)
    (hmk : behindInMarks op (.Call (.Name "repr" q3) [e2] [] q4) = false := by rfl) :
    DT X G W (.Compare (.Call (.Name "repr" q1) [e1] [] q2) [op] [.Call (.Name "repr" q3) [e2] [] q4] pos) (mT (mRpr neg m1 m2)) := by
  have c1 := pe_callB (pos := q2) (p := q1) (call_rpr hgu hu) hg hm (by decide +kernel) (pa_cons h1 pa_nil hs1) (by decide) (by decide) hs1 hp1
  have c2 := pe_callB (pos := q4) (p := q3) (call_rpr hgu hu) hg hm (by decide +kernel) (pa_cons h2 pa_nil hs2) (by decide) (by decide) hs2 hp2
  cases neg with
  | true =>
    subst hop
    exact ptImp (pt_cmpR op_ne c1 c2 hmk) fun σ H Q h => tRpr_ok (neg := true) (r := rNe) hK (fun s t H Q q => ⟨rfl, q⟩) (mT_ok h)
  | false =>
    subst hop
    exact ptImp (pt_cmpR op_eq c1 c2 hmk) fun σ H Q h => tRpr_ok (neg := false) (r := rEq) hK (fun s t H Q q => ⟨rfl, q⟩) (mT_ok h)
end
end DL
namespace DL
open PySem PySem.Spec PyProof.Rows PySem.W
section
variable {prog : Program} {w : World} {A : Around} {E : Value → Shared → Prop} {s : Shared} {K : Frag} {x C f : Addr} {ox : Obj} {od : Option Obj} {b tb : Value}
/-- the left side answers -/
theorem rich_left {op : CmpOp} {Q : Value → Shared → Prop} (hu : A.units < cLine) (X : K.In s.heap) (I : InstAt s.heap x ox C od) (hb : Looks (model prog w) s.heap (typeOf b) tb) (hn : notFirst K C tb = true)
    (one : wpAny (model prog w) A (tryCompare (.ref x) (cmpInfo op).2.1 b) (fun r s' => ∃ v, r = some v ∧ Q v s') E s) : wpAny (model prog w) A (richCompare op (.ref x) b) Q E s := by
  have back : wpAny (model prog w) A (tryCompare (.ref x) (cmpInfo op).2.1 b >>= fun r => match r with | some v => pure v | none => richCompare op (.ref x) b) Q E s := wpAny_bind (wpAny_mono one (fun r s' ⟨v, e, q⟩ => by subst e; exact wpAny_pure q) fun _ _ z => z)
  unfold richCompare
  simp only [oneThing_ref]
  refine wpAny_holding (wpAny_bind (wpAny_cRoomFor hu (wpAny_bind (I.type.here (wpAny_bind (hb.here ?_))))))
  split
  · rename_i q
    have hs : subIn K tb (.ref C) = some false := by
      unfold notFirst at hn
      cases z : (tb == Value.ref C) with
      | true =>
        have := eq_of_beq z
        subst this
        simp at q
      | false =>
        rw [z, Bool.false_or] at hn
        exact eq_of_beq hn
    refine wpAny_bind ((looks_subIn X hs).here ?_)
    simp only [Bool.false_eq_true, if_false]
    exact wpAny_bind (wpAny_mono one (fun r s' ⟨v, e, q⟩ => by subst e; exact wpAny_pure q) fun _ _ z => z)
  · refine wpAny_bind (wpAny_pure ?_)
    simp only [Bool.false_eq_true, if_false]
    exact wpAny_bind (wpAny_mono one (fun r s' ⟨v, e, q⟩ => by subst e; exact wpAny_pure q) fun _ _ z => z)
theorem try_eq {Q : Option Value → Shared → Prop} (X : K.In s.heap) (I : InstAt s.heap x ox C od) (hs : findIn K (.ref C) "__eq__" = some (some (.ref f))) (hf : isFn K (.ref f) = true)
    (h : wpAny (model prog w) A (call (.ref f) [.ref x, b]) (fun v s' => ∃ k, v = .bool k ∧ Q (some (.bool k)) s') E s) : wpAny (model prog w) A (tryCompare (.ref x) "__eq__" b) Q E s := by
  unfold tryCompare
  refine wpAny_bind (ifBound_K X I hs hf (wpAny_mono h (fun v s' ⟨k, e, q⟩ => ?_) fun _ _ z => z))
  subst e
  exact wpAny_pure q
/-- the default != by an own == -/
theorem try_ne {Q : Option Value → Shared → Prop} (hu : A.units + 1 < cLine) (X : K.In s.heap) (I : InstAt s.heap x ox C od) (hs : findIn K (.ref C) "__eq__" = some (some (.ref f))) (hf : isFn K (.ref f) = true)
    (hne : findIn K (.ref C) "__ne__" = some (some (.builtin "object.__ne__"))) (hob : mroIn K C (.type "object") = some true)
    (h : wpAny (model prog w) A.in1 (call (.ref f) [.ref x, b]) (fun v s' => ∃ k, v = .bool k ∧ Q (some (.bool (!k))) s') E s) : wpAny (model prog w) A (tryCompare (.ref x) "__ne__" b) Q E s := by
  unfold tryCompare
  have sub : Looks (model prog w) s.heap (isInstance (.ref x) (.type "object")) true := I.type.andThen (looks_mroIn X hob)
  have body : wpAny (model prog w) A (call (.builtin "object.__ne__") [.ref x, b]) (fun v s' => ∃ k, v = .bool k ∧ Q (some (.bool k)) s') E s := by
    refine wpAny_call (codeAny_call_builtin PySem.F.cmp_object.ne.plain PySem.F.cmpEntry_ne ?_)
    refine @check_slot (model prog w) _ _ s "object.__ne__" "object" "__ne__" (.ref x) [b] [] _ PySem.F.cmpKind_ne PySem.F.cmpSplit_ne sub (PySem.F.cmpArgs_ne _ _) ?_
    unfold Builtin.«object.__ne__»
    refine wpAny_bind (wpAny_of_eq (a := ((Value.ref x : Value), [b])) (by first | rfl | (simp only [slotArgs]; rfl)) ?_)
    refine wpAny_bind (wpAny_cRoomFor (show A.in1.units < cLine from hu) ?_)
    refine wpAny_bind (ifBound_K X I hs hf (wpAny_mono h (fun v s' ⟨k, e, q⟩ => ?_) fun _ _ z => z))
    subst e
    wp_walk
    exact ⟨_, rfl, q⟩
  simp only [callSpecialIfBound?, bindSpecialIfBound?]
  refine wpAny_bind (wpAny_holding (wpAny_bind (wpAny_bind (wpAny_bind (I.type.here ((looks_findIn X hne).here ?_))))))
  refine wpAny_bind (wpAny_askSetting (wpAny_ite ?_))
  have fin : wpAny (model prog w) A (call (.builtin "object.__ne__") ([.ref x] ++ [b]) >>= fun v => pure (some v)) (fun a s' => wpAny (model prog w) A (match a with | some Value.notImplemented => pure none | none => pure none | some v => pure (some v)) Q E s') E s :=
    wpAny_bind (wpAny_mono body (fun v s' ⟨k, e, q⟩ => by subst e; exact wpAny_pure (wpAny_pure q)) fun _ _ z => z)
  have bnd : bindSpecial (.builtin "object.__ne__") (.ref x) = pure (.builtin "object.__ne__", [.ref x]) := PySem.F.cmp_object.ne.bind _
  split
  · rw [bnd]
    exact wpAny_bind (wpAny_pure (wpAny_pure (by exact fin)))
  · rw [bnd]
    exact wpAny_tryCatch (wpAny_bind (wpAny_pure (wpAny_pure (by exact fin))))
end
end DL
namespace DL
open PySem PySem.Spec PyProof.Rows L2
/-- what the class says of == and != -/
structure OwnE (K : PySem.W.Frag) (C f : Addr) : Prop where
  hs : PySem.W.findIn K (.ref C) "__eq__" = some (some (.ref f))
  hf : PySem.W.isFn K (.ref f) = true
  hne : PySem.W.findIn K (.ref C) "__ne__" = some (some (.builtin "object.__ne__"))
  hob : PySem.W.mroIn K C (.type "object") = some true
/-- x == y, x an instance of a class with an own __eq__ that keeps sp (neg: x != y) -/
def rOwn (K : PySem.W.Frag) (neg : Bool) (sp : Sp) (ok : Addr → Prop) : R2 := fun x y H Q => ∃ a C dx fs t, x = .ref a ∧ H a = some (.ins C dx fs) ∧ ok C ∧ TyX K H y t ∧ PySem.W.notFirst K C t = true ∧ sp [x, y] H (fun v H' => ∃ k, v = .bl k ∧ Q (.bl (if neg then !k else k)) H') fun _ _ _ => False
section
variable {X : Cx} {f : Addr} {fd : FuncData} {ps : List Str} {sp : Sp} {k : Nat} {ok : Addr → Prop}
theorem run_own {A : Around} {pins : List (Addr × Obj)} {σ : L2.St} {H : Hp} {s : Shared} {x y : V} {u v : Value} {Q : VK} {E : Value → Shared → Prop} (F : FnOk X.prog X.w X.K X.mg X.base (L2.CX X.prog X.w) k f fd ps sp) (hb : Binds X.K fd ps []) (hr : Room k A) (hfr : A.frames = X.A.frames) (I : Inv X pins σ H s) (rx : RelV x u) (ry : RelV y v)
    (h : sp [x, y] H Q fun _ _ _ => False) : wpAny (model X.prog X.w) A (call (.ref f) [u, v]) (EP X pins σ Q) E s := by
  have e0 : Env0 X.prog X.w X.K X.mg X.base A X.stack s H := by
    have e := I.env0
    exact ⟨by rw [hfr]; exact e.frames, e.mod, e.bs, e.bsz, e.funs, e.frf, e.hok, e.bare⟩
  have hl := F.len _ _ _ _ h
  have r2 : Vals [x, y] [u, v] := .cons rx (.cons ry .nil)
  refine wpAny_call (codeAny_mono (F.run A X.stack s H ⟨[u, v], []⟩ [u, v] [x, y] Q _ hr e0 (by
    have := hb s [u, v] I.kIn (by simpa using hl)
    simpa using this) r2 h) fun r s' hq => ?_)
  cases r with
  | error e =>
    obtain ⟨_, _, _, _, _, _, _, _, _, _, _, _, z⟩ := hq
    exact z.elim
  | ok fl =>
    cases fl with
    | ret w => exact I.after hq
    | next => exact False.elim hq
    | brk => exact False.elim hq
    | cont => exact False.elim hq
theorem op_own {neg : Bool} {op : CmpOp} (hop : op = if neg then .NotEq else .Eq) (F : FnOk X.prog X.w X.K X.mg X.base (L2.CX X.prog X.w) k f fd ps sp) (hb : Binds X.K fd ps []) (hr : Room (k + 1) X.A) (ho : ∀ C, ok C → OwnE X.K C f) : OpR X (compareOp op) (rOwn X.K neg sp ok) := by
  intro pins s σ H x y u v Q I rx ry h
  obtain ⟨a, C, dx, fs, t, rfl, ha, hC, ty, nf, hsp⟩ := h
  have O := ho C hC
  obtain ⟨mA, J, _⟩ := ins_get I.hok ha
  obtain ⟨od, J, _⟩ := J.look
  obtain ⟨Pk, Z, p, _⟩ := kit_of I ry ty
  have hty := Z.ty (M := model X.prog X.w) s.heap I.kIn p
  cases rx
  cases neg with
  | false =>
    subst hop
    refine rich_left (op := .Eq) (hr.mono (Nat.le_succ k)).units0 I.kIn J hty nf ?_
    refine try_eq I.kIn J O.hs O.hf (wpAny_mono (run_own F hb (hr.mono (Nat.le_succ k)) rfl I (show RelV (.ref a) (.ref a) from rfl) ry hsp) (fun w s' hw => ?_) fun _ _ z => z)
    obtain ⟨z, H', I', rz, kk, ez, q⟩ := hw
    subst ez
    cases rz
    exact ⟨kk, rfl, _, rfl, .bl kk, H', I', rfl, q⟩
  | true =>
    subst hop
    refine rich_left (op := .NotEq) (hr.mono (Nat.le_succ k)).units0 I.kIn J hty nf ?_
    have hr1 : Room k X.A.in1 := hr.in1
    refine try_ne (by have := hr.un; omega) I.kIn J O.hs O.hf O.hne O.hob (wpAny_mono (run_own F hb hr1 rfl I (show RelV (.ref a) (.ref a) from rfl) ry hsp) (fun w s' hw => ?_) fun _ _ z => z)
    obtain ⟨z, H', I', rz, kk, ez, q⟩ := hw
    subst ez
    cases rz
    exact ⟨kk, rfl, _, rfl, .bl (!kk), H', I', rfl, q⟩
end
section
variable {X : Cx} {G : Ctx} {W : WX} {f : Addr} {fd : FuncData} {ps : List Str} {c : FN} {k : Nat}
/-- may y stand on the right of an instance of class n -/
def rightOk (oks : List Nat) (n : Nat) : D → Bool
  | .obj m _ => oks.contains m
  | .exc _ _ => false
  | .thk _ _ _ => false
  | _ => true
def ownE (neg : Bool) (r : RC) : ME := fun env => match r with
  | .ok d _ _ => match d with
    | .bl b => .ok (.bl (if neg then !b else b)) false env
    | _ => .bad
  | _ => .bad
/-- x == y by __eq__; lefts: the classes with this __eq__; oks: the classes that may stand right -/
def mOwn (neg : Bool) (c : FN) (lefts oks : List Nat) (m1 m2 : ME) : ME := bindE m1 fun x => bindE m2 fun y => match x with
  | .obj n fs => match lefts.contains n && rightOk oks n y with
    | true => ownE neg (c [.obj n fs, y])
    | false => fun _ => .bad
  | _ => fun _ => .bad
theorem sp_own {g : Gh} {σ : L2.St} {H : Hp} {env : EV} {S : Sset} {P : List (Addr × D)} {Q : VK} {vs : List V} {ds : List D} {neg : Bool} {n : Nat} (I : SI G g σ H env S P) (r : RepL G H S vs ds) (hn : vs.length = n) (h : PostE G W g σ H S P Q (ownE neg (c ds) env)) :
    SpF G false n c vs H (fun v H' => ∃ k, v = .bl k ∧ Q (.bl (if neg then !k else k)) H') fun _ _ _ => False := by
  refine ⟨hn, S, ds, none, rfl, I.sho, r, ?_⟩
  unfold ownE at h
  cases q : c ds with
  | bad => rw [q] at h; exact h.elim
  | exc k fs f => rw [q] at h; exact h.elim
  | ok d o f =>
    rw [q] at h
    cases d with
    | bl b =>
      intro v H' S' P' J _ hv
      obtain ⟨I', gr⟩ := I.call0 J
      cases o with
      | false =>
        cases hv
        exact ⟨b, rfl, h _ H' S' gr ⟨I', .bl⟩⟩
      | true => obtain ⟨_, _, _, hv⟩ := hv; exact hv.2.elim
    | _ => exact h.elim
theorem tOwn_ok {neg : Bool} {lefts oks : List Nat} {m1 m2 : ME} (hK : G.K = X.K) (hi : ∀ n, oks.contains n = true → InsK X.K (G.C n)) (hnf : ∀ n d t, lefts.contains n = true → rightOk oks n d = true → tyVal G d = some t → PySem.W.notFirst X.K (G.C n) t = true) {σ : L2.St} {H : Hp} {Q : VK} (h : trE G W (mOwn neg c lefts oks m1 m2) σ H Q) :
    tOp (rOwn X.K neg (SpF G false 2 c) fun C => ∃ n, lefts.contains n = true ∧ C = G.C n) (trE G W m1) (trE G W m2) σ H Q := by
    obtain ⟨g, env, S, P, I, h⟩ := h
    show trE G W m1 σ H fun v H1 => trE G W m2 σ H1 fun w H2 => rOwn X.K neg (SpF G false 2 c) (fun C => ∃ n, lefts.contains n = true ∧ C = G.C n) v w H2 Q
    refine bindE_ok I h fun x env1 v H1 S1 g1 I1 r1 h => ?_
    refine bindE_ok I1 h fun y env2 w H2 S2 g2 I2 r2 h => ?_
    cases x with
    | obj n fs =>
      cases q : lefts.contains n && rightOk oks n y with
      | false => simp only [q] at h; exact h.elim
      | true =>
        simp only [q] at h
        obtain ⟨q1, q2⟩ := Bool.and_eq_true_iff.mp q
        have r1 := r1.mono g2
        obtain ⟨a, dx, vs, rfl, ha, _, _⟩ := RepB.obj (.inl r1)
        have hy : okObj oks y = true := by cases y <;> first | exact q2 | rfl | cases q2
        obtain ⟨t, ht⟩ := ty_some (G := G) hy
        exact ⟨a, _, dx, _, t, rfl, ha, ⟨n, q1, rfl⟩, tyX_of hK hi hy ht (.inl r2), hnf n y t q1 q2 ht, sp_own I2 (.cons r1 (.cons r2 .nil)) rfl h⟩
    | _ => exact h.elim
theorem de_own {neg : Bool} {op : CmpOp} {lefts oks : List Nat} {e1 e2 : Expr} {m1 m2 : ME} {pos : Pos} (hop : op = if neg then .NotEq else .Eq) (hK : G.K = X.K) (F : FnOk X.prog X.w X.K X.mg X.base (L2.CX X.prog X.w) k f fd ps (SpF G false 2 c)) (hb : Binds X.K fd ps []) (hr : Room (k + 1) X.A)
    (ho : ∀ n, lefts.contains n = true → OwnE X.K (G.C n) f) (hi : ∀ n, oks.contains n = true → InsK X.K (G.C n)) (hnf : ∀ n d t, lefts.contains n = true → rightOk oks n d = true → tyVal G d = some t → PySem.W.notFirst X.K (G.C n) t = true)
    (h1 : DE X G W e1 m1) (h2 : DE X G W e2 m2) (hm : behindInMarks op e2 = false := by rfl) : DE X G W (.Compare e1 [op] [e2] pos) (mOwn neg c lefts oks m1 m2) :=
  peImp (pe_cmpR (op_own (ok := fun C => ∃ n, lefts.contains n = true ∧ C = G.C n) hop F hb hr fun C ⟨n, h, e⟩ => by subst e; exact ho n h) h1 h2 hm) fun σ H Q h => tOwn_ok hK hi hnf h
theorem dt_own {neg : Bool} {op : CmpOp} {lefts oks : List Nat} {e1 e2 : Expr} {m1 m2 : ME} {pos : Pos} (hop : op = if neg then .NotEq else .Eq) (hK : G.K = X.K) (F : FnOk X.prog X.w X.K X.mg X.base (L2.CX X.prog X.w) k f fd ps (SpF G false 2 c)) (hb : Binds X.K fd ps []) (hr : Room (k + 1) X.A)
    (ho : ∀ n, lefts.contains n = true → OwnE X.K (G.C n) f) (hi : ∀ n, oks.contains n = true → InsK X.K (G.C n)) (hnf : ∀ n d t, lefts.contains n = true → rightOk oks n d = true → tyVal G d = some t → PySem.W.notFirst X.K (G.C n) t = true)
    (h1 : DE X G W e1 m1) (h2 : DE X G W e2 m2) (hm : behindInMarks op e2 = false := by rfl) : DT X G W (.Compare e1 [op] [e2] pos) (mT (mOwn neg c lefts oks m1 m2)) :=
  ptImp (pt_cmpR (op_own (ok := fun C => ∃ n, lefts.contains n = true ∧ C = G.C n) hop F hb hr fun C ⟨n, h, e⟩ => by subst e; exact ho n h) h1 h2 hm) fun σ H Q h => tOwn_ok hK hi hnf (mT_ok h)
end
end DL

set_option Elab.async false
set_option linter.all false
set_option maxRecDepth 100000
set_option maxHeartbeats 1000000
/-! DL21: C(k = x, ..) with names alone as arguments, lists of the frame's own lent; dict displays. -/
namespace DL
open PySem PySem.Spec PyProof.Rows L2
mutual
/-- no list within -/
def noLst : D → Bool
  | .lst _ => false
  | .scr _ => false
  | .thk _ _ _ => false
  | .tup xs => noLstL xs
  | .dct kvs => noLstK kvs
  | .dtt kvs => noLstT kvs
  | .obj _ fs => noLstL fs
  | .exc _ fs => noLstL fs
  | _ => true
def noLstL : List D → Bool
  | [] => true
  | d :: r => noLst d && noLstL r
def noLstK : List (Key × D) → Bool
  | [] => true
  | (_, d) :: r => noLst d && noLstK r
def noLstT : List (List Key × D) → Bool
  | [] => true
  | (_, d) :: r => noLst d && noLstT r
end
section
variable {G : Ctx} {H : Hp} {S S' : Sset}
theorem exD_ne {cls : Value} {a d : Addr} {xs : List V} : ¬ (some (ExD cls a d) = some (HO.lst xs)) := fun z => by unfold ExD at z; cases z
mutual
/-- data without lists stand in the set without lists -/
theorem Rep.wo (h : ∀ a, S a → S' a ∨ ∃ xs, H a = some (.lst xs)) : ∀ {v : V} {d : D}, Rep G H S v d → noLst d = true → Rep G H S' v d
  | _, _, .non, _ => .non
  | _, _, .bl, _ => .bl
  | _, _, .int, _ => .int
  | _, _, .str x, _ => .str x
  | _, _, .tup s e l r, n => .tup ((h _ s).resolve_right fun ⟨_, z⟩ => by rw [e] at z; cases z) e l (RepL.wo h r (by simpa only [noLst] using n))
  | _, _, .ktup k r, n => .ktup k (RepL.wo h r (by simpa only [noLst] using n))
  | _, _, .lst s e l r, n => by simp [noLst] at n
  | _, _, .dct s e l r, n => .dct ((h _ s).resolve_right fun ⟨_, z⟩ => by rw [e] at z; cases z) e l (RepK.wo h r (by simpa only [noLst] using n))
  | _, _, .dtt s e l r, n => .dtt ((h _ s).resolve_right fun ⟨_, z⟩ => by rw [e] at z; cases z) e l (RepT.wo h r (by simpa only [noLst] using n))
  | _, _, .obj s e l r, n => .obj ((h _ s).resolve_right fun ⟨_, z⟩ => by rw [e] at z; cases z) e l (RepL.wo h r (by simpa only [noLst] using n))
  | _, _, .scr s e l, n => by simp [noLst] at n
  | _, _, .kscr e l, n => by simp [noLst] at n
  | _, _, .exc s s2 e e2 l r, n => .exc ((h _ s).resolve_right fun ⟨_, z⟩ => by rw [e] at z; exact exD_ne z) ((h _ s2).resolve_right fun ⟨_, z⟩ => by rw [e2] at z; cases z) e e2 l (RepL.wo h r (by simpa only [noLst] using n))
  | _, _, .thk g, n => by simp [noLst] at n
theorem RepL.wo (h : ∀ a, S a → S' a ∨ ∃ xs, H a = some (.lst xs)) : ∀ {v : List V} {d : List D}, RepL G H S v d → noLstL d = true → RepL G H S' v d
  | _, _, .nil, _ => .nil
  | _, _, .cons a b, n => by
    simp only [noLstL, Bool.and_eq_true] at n
    exact .cons (Rep.wo h a n.1) (RepL.wo h b n.2)
theorem RepK.wo (h : ∀ a, S a → S' a ∨ ∃ xs, H a = some (.lst xs)) : ∀ {v : List (Key × V)} {d : List (Key × D)}, RepK G H S v d → noLstK d = true → RepK G H S' v d
  | _, _, .nil, _ => .nil
  | _, _, .cons k a b, n => by
    simp only [noLstK, Bool.and_eq_true] at n
    exact .cons k (Rep.wo h a n.1) (RepK.wo h b n.2)
theorem RepT.wo (h : ∀ a, S a → S' a ∨ ∃ xs, H a = some (.lst xs)) : ∀ {v : List (List Key × V)} {d : List (List Key × D)}, RepT G H S v d → noLstT d = true → RepT G H S' v d
  | _, _, .nil, _ => .nil
  | _, _, .cons k a b, n => by
    simp only [noLstT, Bool.and_eq_true] at n
    exact .cons k (Rep.wo h a n.1) (RepT.wo h b n.2)
end
end
section
variable {G : Ctx} {g : Gh} {σ : L2.St} {H H' : Hp} {env : EV} {S : Sset} {P : List (Addr × D)} {a : Addr} {d d' : D}
/-- behind a callee that changed the pending root a; the lists L of the frame's own were lent -/
theorem SI.callPL {fl : Bool} {σ' : L2.St} {env' : EV} {S' : Sset} {R : List (Addr × D)} {L : Sset} {c : Nat} {fs : List D} (I : SI G g σ H env S ((a, d) :: P)) (hL : ∀ b, L b → ∃ (i : Nat) (xs : List D) (t : Tag), t ≠ .s ∧ env[i]? = some (some (.lst xs, t)) ∧ σ[i]? = some (some (.ref b)))
    (J : SI G ⟨H, fun b => S b ∨ L b, some a, fl⟩ σ' H' env' S' R) (hn : Own G H' S' a (.obj c fs)) (hd : noLstL fs = true) : SI G g σ H' env (fun b => S' b ∧ ¬ L b) ((a, .obj c fs) :: P) ∧ Grow S H (fun b => S' b ∧ ¬ L b) H' := by
  have ha := I.pend (a, d) List.mem_cons_self
  have nd : a ∉ P.map (·.1) := (List.nodup_cons.mp (by have := I.pun; rwa [List.map_cons] at this)).1
  have e : ∀ b o, b ≠ a → H b = some o → Keep H' b o := fun b o hb h => J.fr b o h (by simpa using Ne.symm hb)
  have lo : ∀ b, L b → ∃ xs, Own G H S b (.lst xs) := fun b hb => by
    obtain ⟨i, xs, t, ht, h1, h2⟩ := hL b hb
    obtain ⟨b', k1, k2, _⟩ := I.own i _ t ht h1
    rw [h2] at k1; injection k1 with k1; injection k1 with k1; injection k1 with k1; subst k1
    exact ⟨xs, k2⟩
  have la : ¬ L a := fun h => by
    obtain ⟨i, xs, t, ht, h1, h2⟩ := hL a h
    exact I.pdis (a, d) List.mem_cons_self i _ t ht h1 h2
  have gr : Grow S H (fun b => S' b ∧ ¬ L b) H' := fun b hb => ⟨⟨J.sh0 b (.inl hb), fun h => by obtain ⟨xs, q⟩ := lo b h; exact q.1 hb⟩, by
    obtain ⟨o, ho⟩ := I.shH b hb
    exact ((e b o (fun q => ha.1.1 (q ▸ hb)) ho).nt fun ps z => I.nt b hb ps (ho.trans z)).trans ho.symm⟩
  have ow : ∀ {b : Addr} {e' : D}, b ≠ a → Own G H S b e' → Own G H' (fun b => S' b ∧ ¬ L b) b e' := fun {b e'} hb ⟨h1, h2⟩ => by
    obtain ⟨o, ho⟩ := h2.some
    refine ⟨fun ⟨h, hl⟩ => ?_, h2.mono gr (((e b o hb ho).nt fun ps z => h2.nt ps (ho.trans z)).trans ho.symm)⟩
    rcases J.sh1 b h with h | h | h | ⟨φ, h⟩
    · exact h.elim h1 hl
    · have h : H b = none := h
      rw [h] at ho; cases ho
    · have h : some a = some b := h
      injection h with h; exact hb h.symm
    · exact h2.ne_ext φ h
  have base : SI G g σ H' env (fun b => S' b ∧ ¬ L b) P := by
    refine ⟨I.len, fun j x q => ?_, fun j x u hu q => ?_, I.uniq, I.pin, I.pin0, fun p hp => ⟨ow (fun z => nd (z ▸ List.mem_map_of_mem hp)) (I.pop.pend p hp).1, (I.pop.pend p hp).2⟩, I.pop.pun, I.pop.pdis, fun b u q1 q2 => ?_, fun b h => (gr b (I.sh0 b h)).1, fun b h => ?_, fun b h => J.shH b h.1, J.tab, fun b h => J.nt b h.1⟩
    · obtain ⟨v, q1, q2⟩ := I.shr j x q
      exact ⟨v, q1, q2.mono gr⟩
    · obtain ⟨b, q1, q2, q3⟩ := I.own j x u hu q
      exact ⟨b, q1, ow (fun z => I.pdis (a, d) List.mem_cons_self j x u hu q (z ▸ q1)) q2, q3⟩
    · have nb : b ≠ a := fun z => by
        subst z
        rcases ha.2 with h3 | h3
        · rw [h3] at q1; cases q1
        · exact q2 h3
      rcases I.fr b u q1 q2 with k | ⟨k1, ps, k⟩
      · exact e b u nb k
      · rcases e b _ nb k with q | ⟨_, q⟩
        · exact .inr ⟨k1, ps, q⟩
        · exact .inr ⟨k1, q⟩
    · rcases J.sh1 b h.1 with q | q | q | ⟨φ, q⟩
      · exact q.elim (I.sh1 b) fun z => absurd z h.2
      · exact sh1_ok (I.okNew q)
      · have q : some a = some b := q
        injection q with q; subst q; exact sh1_ok ha.2
      · exact I.sh1_ext q
  have at' : At G H' (fun b => S' b ∧ ¬ L b) a (.obj c fs) := by
    obtain ⟨dx, vs, h1, h2, h3⟩ := hn.2
    refine ⟨dx, vs, h1, h2, h3.wo (fun b hb => ?_) hd⟩
    by_cases hl : L b
    · obtain ⟨xs, q⟩ := lo b hl
      obtain ⟨ws, k1, _⟩ := q.2
      have nb : b ≠ a := fun z => la (z ▸ hl)
      exact .inr ⟨ws, ((e b _ nb k1).nt fun ps z => by cases z)⟩
    · exact .inl ⟨hb, hl⟩
  exact ⟨base.push ⟨fun h => hn.1 h.1, at'⟩ ha.2 (fun p hp q => nd (q ▸ List.mem_map_of_mem hp)) (I.pdis (a, d) List.mem_cons_self), gr⟩
end
end DL
namespace DL
open PySem PySem.Spec PyProof.Rows L2
section
variable {X : Cx} {G : Ctx} {W : WX} {g : Gh} {σ : L2.St} {H H1 H' : Hp} {env env1 : EV} {S S1 : Sset} {P : List (Addr × D)} {Q : VK} {a : Addr} {d d' : D}
/-! ### {k: v, ..} -/
def evP : List (ME × ME) → (List (D × D) → ME) → ME
  | [], k => k []
  | (a, b) :: r, k => bindE a fun x => bindE b fun y => evP r fun l => k ((x, y) :: l)
def mkK : List (D × D) → Option (List (Key × D))
  | [] => some []
  | (x, y) :: r => match keyD x, mkK r with
    | some k, some l => some ((k, y) :: l)
    | _, _ => none
def mergeD (kvs more : List (Key × D)) : List (Key × D) := more.foldl (fun acc kv => putD acc kv.1 kv.2) kvs
def dctE (l : List (D × D)) : ME := fun env => match mkK l with
  | some kds => .ok (.dct (mergeD [] kds)) true env
  | none => .bad
def mDct (ms : List (ME × ME)) : ME := evP ms dctE
abbrev DPs (X : Cx) (G : Ctx) (W : WX) (pos : Pos) (keys : List (Option Expr)) (values : List Expr) (ms : List (ME × ME)) := PPs X pos keys values (ms.map fun ab => (trE G W ab.1, trE G W ab.2))
theorem dps_nil {pos : Pos} : DPs X G W pos [] [] [] := pps_nil
theorem dps_cons {pos : Pos} {k v : Expr} {ks : List (Option Expr)} {vs : List Expr} {mk mv : ME} {ms : List (ME × ME)} (hk : DE X G W k mk) (hv : DE X G W v mv) (hr : DPs X G W pos ks vs ms) : DPs X G W pos (some k :: ks) (v :: vs) ((mk, mv) :: ms) := pps_cons hk hv hr
inductive RepP (G : Ctx) (H : Hp) (S : Sset) : List (V × V) → List (D × D) → Prop
  | nil : RepP G H S [] []
  | cons {v w x y vs ds} : Rep G H S v x → Rep G H S w y → RepP G H S vs ds → RepP G H S ((v, w) :: vs) ((x, y) :: ds)
theorem RepP.mono (gr : Grow S H S1 H1) : ∀ {vs : List (V × V)} {ds : List (D × D)}, RepP G H S vs ds → RepP G H1 S1 vs ds
  | _, _, .nil => .nil
  | _, _, .cons a b c => .cons (a.mono gr) (b.mono gr) (RepP.mono gr c)
theorem PostE.pop {r : RE} {p : Addr × D} {R : VK} (h : PostE G W g σ H S P Q r) (hk : ∀ d o e v H' S', r = .ok d o e → Grow S H S' H' → Val G g σ H' e S' (p :: P) v d o → R v H') : PostE G W g σ H S (p :: P) R r := by
  cases r with
  | ok d o e => exact fun v H' S' gr hv => hk d o e v H' S' rfl gr hv
  | exc c fs e => exact fun cls dd H' S' gr I' er => h cls dd H' S' gr I'.pop er
  | bad => exact h
theorem bindE_okP {m : ME} {k : D → ME} {R : VK} {p : Addr × D} (I : SI G g σ H env S (p :: P)) (h : PostE G W g σ H S P Q (bindE m k env))
    (hk : ∀ d env1 v H1 S1, Grow S H S1 H1 → SI G g σ H1 env1 S1 (p :: P) → Rep G H1 S1 v d → PostE G W g σ H1 S1 P Q (k d env1) → R v H1) : trE G W m σ H R := by
  refine ⟨g, env, S, p :: P, I, ?_⟩
  unfold bindE at h
  cases q : m env with
  | ok d o e =>
    rw [q] at h
    intro v H1 S1 gr hv
    obtain ⟨S2, g2, I2, r2⟩ := hv.frz
    exact hk d e v H1 S2 (gr.trans g2) I2 r2 (h.mono (gr.trans g2))
  | exc c fs e => rw [q] at h; exact fun cls dd H' S' gr I' er => h cls dd H' S' gr I'.pop er
  | bad => rw [q] at h; exact h
theorem evP_ok {p : Addr × D} {R : List (V × V) → Hp → Prop} : ∀ (ms : List (ME × ME)) (k : List (D × D) → ME) {H : Hp} {env : EV} {S : Sset}, SI G g σ H env S (p :: P) → PostE G W g σ H S P Q (evP ms k env) →
    (∀ vs ds H1 S1 env1, Grow S H S1 H1 → SI G g σ H1 env1 S1 (p :: P) → RepP G H1 S1 vs ds → vs.length = ms.length → PostE G W g σ H1 S1 P Q (k ds env1) → R vs H1) → tPairs (ms.map fun ab => (trE G W ab.1, trE G W ab.2)) σ H R
  | [], k, H, env, S, I, h, hk => hk [] [] H S env Grow.rfl' I .nil rfl h
  | (a, b) :: r, k, H, env, S, I, h, hk => by
    refine bindE_okP I h fun x env1 v H1 S1 g1 I1 r1 h => ?_
    refine bindE_okP I1 h fun y env2 w H2 S2 g2 I2 r2 h => ?_
    exact evP_ok r (fun l => k ((x, y) :: l)) I2 h fun vs ds H3 S3 env3 g3 I3 rp hlen h => hk _ _ H3 S3 env3 ((g1.trans g2).trans g3) I3 (.cons ((r1.mono g2).mono g3) (r2.mono g3) rp) (by rw [List.length_cons, hlen, List.length_cons]) h
theorem mkK_ok : ∀ {vs : List (V × V)} {ds : List (D × D)} {kds : List (Key × D)}, RepP G H S vs ds → mkK ds = some kds → ∃ kvs : List (Key × V), vs = kvs.map (fun kv => (kV kv.1, kv.2)) ∧ RepK G H S kvs kds
  | _, _, kds, .nil, e => by simp only [mkK] at e; cases e; exact ⟨[], rfl, .nil⟩
  | _, _, kds, .cons (x := x) (y := y) (ds := ds) a b c, e => by
    simp only [mkK] at e
    cases q1 : keyD x with
    | none => simp [q1] at e
    | some k =>
      cases q2 : mkK ds with
      | none => simp [q1, q2] at e
      | some l =>
        simp [q1, q2] at e
        subst e
        obtain ⟨kvs, rfl, rk⟩ := mkK_ok c q2
        obtain ⟨rfl, ko⟩ := keyD_ok q1 (.inl a)
        exact ⟨(k, _) :: kvs, rfl, .cons ko b rk⟩
theorem RepK.merge : ∀ {more : List (Key × V)} {md : List (Key × D)} {kvs : List (Key × V)} {kds : List (Key × D)}, RepK G H S more md → RepK G H S kvs kds → RepK G H S (mergeK kvs more) (mergeD kds md)
  | _, _, _, _, .nil, r => r
  | _, _, _, _, .cons hk hv hr, r => by
    have z := RepK.merge hr (RepK.put hk hv r)
    exact z
theorem de_dct {keys : List (Option Expr)} {values : List Expr} {pos : Pos} {ms : List (ME × ME)} (h : DPs X G W pos keys values ms) (hl2 : ms.length ≤ 15 := by decide) (hall : keys.all (·.isSome) = true := by rfl) (hl : keys.length = values.length := by rfl) (h0 : keys ≠ [] := by simp) (h15 : keys.length ≤ 15 := by decide) (hkm : keys.length = ms.length := by rfl) :
    DE X G W (.Dict keys values pos) (mDct ms) :=
  peImp (pe_disp h hall hl h0 h15) fun σ H Q ⟨g, env, S, P, I, h⟩ => fun p hp => by
    have I2 := I.extOwn (N := Nul) (H' := L2.upd H p (.dK [])) (a := p) (d := .dct []) (Ext.upd hp) (fun _ h => h.elim) hp id ⟨[], upd_same, Nat.zero_le _, .nil⟩
    rw [or1_nul] at I2
    have g1 : Grow S H S (L2.upd H p (.dK [])) := grow_upd I.shH hp
    refine evP_ok ms dctE I2 (h.mono g1) fun vs ds H1 S1 env1 gr I3 rp hlen h => ?_
    have own := I3.pend (p, .dct []) List.mem_cons_self
    obtain ⟨ws, k1, k2, k3⟩ := own.1.2
    cases k3
    refine ⟨k1, ?_⟩
    unfold dctE at h
    cases q : mkK ds with
    | none => simp only [q] at h; exact h.elim
    | some kds =>
      simp only [q] at h
      obtain ⟨kvs, rfl, rk⟩ := mkK_ok rp q
      have gw : Grow S1 H1 S1 (L2.upd H1 p (.dK (mergeK [] kvs))) := own_grow own.1
      have lz : kvs.length ≤ 15 := by rw [← List.length_map (f := fun kv : Key × V => (kV kv.1, kv.2)), hlen]; exact hl2
      refine ⟨kvs, rfl, lz, h _ _ S1 gw ⟨p, rfl, I3.writeP ⟨_, upd_same, ?_, (RepK.merge rk .nil).mono gw⟩⟩⟩
      have h1 := length_mergeK kvs []
      rw [List.length_nil] at h1
      rw [sizeLine_eq]; omega
def mDct0 : ME := fun env => .ok (.dct []) true env
theorem de_dct0 {pos : Pos} : DE X G W (.Dict [] [] pos) mDct0 :=
  peImp pe_dnewK fun σ H Q ⟨g, env, S, P, I, h⟩ => fun p hp => by
    have I2 := I.extOwn (N := Nul) (H' := L2.upd H p (.dK [])) (a := p) (d := .dct []) (Ext.upd hp) (fun _ h => h.elim) hp id ⟨[], upd_same, Nat.zero_le _, .nil⟩
    rw [or1_nul] at I2
    exact h _ _ S (grow_upd I.shH hp) ⟨p, rfl, I2⟩
/-! ### C(k = x, ..), x names alone -/
def datL (env : EV) : List Nat → Option (List D)
  | [] => some []
  | i :: r => match env[i]?, datL env r with
    | some (some (d, t)), some l => (match t with
      | .s => some (d :: l)
      | _ => match d with
        | .lst xs => some (.lst xs :: l)
        | _ => none)
    | _, _ => none
def mMakeK (c : FN) (cls : Nat) (is : List Nat) (pd : List D → List D) : ME := fun env => match datL env is with
  | some ds => match c (.obj cls [] :: pd ds) with
    | .ok d _ (some f) => (match d, f with
      | .non, .obj n fs => (match noLstL fs with
        | true => .ok (.obj n fs) true env
        | false => .bad)
      | _, _ => .bad)
    | _ => .bad
  | none => .bad
theorem datL_ok : ∀ {is : List Nat} {ds : List D}, SI G g σ H env S P → datL env is = some ds → ∃ vs : List V, (∀ (j i : Nat), is[j]? = some i → ∃ v, σ[i]? = some (some v) ∧ vs[j]? = some v) ∧ vs.length = is.length ∧
    RepL G H (fun b => S b ∨ ∃ (i : Nat) (xs : List D) (t : Tag), t ≠ .s ∧ env[i]? = some (some (.lst xs, t)) ∧ σ[i]? = some (some (.ref b))) vs ds
  | [], _, _, e => by simp only [datL] at e; cases e; exact ⟨[], fun j i h => by simp at h, rfl, .nil⟩
  | i :: r, ds, I, e => by
    have gS : Grow S H (fun b => S b ∨ ∃ (i : Nat) (xs : List D) (t : Tag), t ≠ .s ∧ env[i]? = some (some (.lst xs, t)) ∧ σ[i]? = some (some (.ref b))) H := fun b hb => ⟨.inl hb, rfl⟩
    simp only [datL] at e
    cases q1 : env[i]? with
    | none => simp [q1] at e
    | some dt =>
      cases dt with
      | none => simp [q1] at e
      | some dt =>
        obtain ⟨d, t⟩ := dt
        cases q2 : datL env r with
        | none => simp [q1, q2] at e
        | some l =>
          obtain ⟨vs, h1, h2, h3⟩ := datL_ok I q2
          have fin : ∀ v, σ[i]? = some (some v) → Rep G H (fun b => S b ∨ ∃ (i : Nat) (xs : List D) (t : Tag), t ≠ .s ∧ env[i]? = some (some (.lst xs, t)) ∧ σ[i]? = some (some (.ref b))) v d → ∃ vs : List V, (∀ (j i' : Nat), (i :: r)[j]? = some i' → ∃ v, σ[i']? = some (some v) ∧ vs[j]? = some v) ∧ vs.length = (i :: r).length ∧
              RepL G H (fun b => S b ∨ ∃ (i : Nat) (xs : List D) (t : Tag), t ≠ .s ∧ env[i]? = some (some (.lst xs, t)) ∧ σ[i]? = some (some (.ref b))) vs (d :: l) := fun v hv rv => by
            refine ⟨v :: vs, fun j i' hj => ?_, by rw [List.length_cons, h2, List.length_cons], .cons rv h3⟩
            cases j with
            | zero => simp at hj; subst hj; exact ⟨v, hv, rfl⟩
            | succ j => exact h1 j i' (by simpa using hj)
          by_cases ht : t = .s
          · subst ht
            simp only [q1, q2, Option.some.injEq] at e
            subst e
            obtain ⟨v, k1, k2⟩ := I.shr i d q1
            exact fin v k1 (k2.mono gS)
          · have e : ∃ xs, d = .lst xs ∧ ds = .lst xs :: l := by
              cases t <;> first | exact absurd rfl ht | (simp only [q1, q2] at e; cases d <;> simp at e <;> exact ⟨_, rfl, e.symm⟩)
            obtain ⟨xs, rfl, rfl⟩ := e
            obtain ⟨a, k1, k2, _⟩ := I.own i _ t ht q1
            exact fin _ k1 ((k2.2.mono gS rfl).rep (.inr ⟨i, xs, t, ht, q1, k1⟩))
/-- the keywords are names of the frame's slots -/
inductive KwV (X : Cx) : List Keyword → List Nat → Prop
  | nil : KwV X [] []
  | cons {nm : Option Str} {y : Str} {py kpos : Pos} {i : Nat} {kws : List Keyword} {is : List Nat} : PE X (.Name y py) (tVar i) → KwV X kws is → KwV X (⟨nm, .Name y py, kpos⟩ :: kws) (i :: is)
def tVars : List Nat → TA
  | [] => tNil
  | i :: r => tCons (tVar i) (tVars r)
theorem KwV.pk : ∀ {kws : List Keyword} {is : List Nat}, KwV X kws is → PK X kws (tVars is)
  | _, _, .nil => pk_nil
  | _, _, .cons h r => pk_cons h (KwV.pk r)
theorem tVars_ok {R : List V → Hp → Prop} : ∀ {is : List Nat} {vs : List V}, vs.length = is.length → (∀ (j i : Nat), is[j]? = some i → ∃ v, σ[i]? = some (some v) ∧ vs[j]? = some v) → R vs H → tVars is σ H R
  | [], [], _, _, h => h
  | i :: r, v :: vs, hl, hk, h => by
    obtain ⟨w, h1, h2⟩ := hk 0 i rfl
    have e : v = w := Option.some.inj h2
    subst e
    exact ⟨v, h1, tVars_ok (R := fun ws H => R (v :: ws) H) (by simpa using hl) (fun j i' hj => by simpa using hk (j + 1) i' (by simpa using hj)) h⟩
theorem de_makeK {cls n k : Nat} {f : Addr} {fd : FuncData} {ps ks : List Str} {c : FN} {x : Str} {p pos : Pos} {kws : List Keyword} {is : List Nat} {pd : List D → List D} {gg : List Value → List Value → List Value} {gV : List V → List V → List V}
    (M : Mk X.K (G.C cls) f) (F : FnOk X.prog X.w X.K X.mg X.base (L2.CX X.prog X.w) k f fd ps (SpF G true n c)) (hr : Room (k + 1) X.A) (hg : Gl X x) (hm : X.mg x = some (.ref (G.C cls))) (hb : KBn X.K fd ps 1 ks gg gV) (hkw : KwV X kws is)
    (hperm : ∀ (H : Hp) (S : Sset) (v : V) (zs : List V) (ds : List D), zs.length = is.length → RepL G H S zs ds → ∃ ws, gV [v] zs = v :: ws ∧ 1 + ws.length = n ∧ RepL G H S ws (pd ds)) (hik : is.length = ks.length) (hps : ps.length = n)
    (hall : (backToKw pos (keywordEach kws X.env)).all (·.1.isSome) = true := by rfl) (hks : (backToKw pos (keywordEach kws X.env)).filterMap (·.1) = ks := by rfl) (hdb : (x == ("__debug__" : Str)) = false := by decide)
    (hpl : ((backTo pos (starEach [] X.env)).any (·.1) || (backToKw pos (keywordEach kws X.env)).any (·.1.isNone)) = false := by rfl) :
    DE X G W (.Call (.Name x p) [] kws pos) (mMakeK c cls is pd) := by
  refine ⟨fun pins s σ H Q I h => ?_⟩
  obtain ⟨g, env, S, P, I0, h⟩ := h
  unfold mMakeK at h
  cases q : datL env is with
  | none => simp only [q] at h; exact h.elim
  | some ds =>
    simp only [q] at h
    obtain ⟨zs0, v1, v2, v3⟩ := datL_ok I0 q
    refine wpAny_Call_Name_kw (ld_glob I hg hm ?_ hdb)
    refine PySem.W.callWith_KW0 (h₀ := X.base) I.ok.mod.kin M.kp hall ?_ hpl
    refine thn (hkw.pk.run pos pins s σ H (fun zs H1 => zs = zs0 ∧ H1 = H) I (tVars_ok v2 v1 ⟨rfl, rfl⟩)) fun ws s2 ⟨zs, H2, I2, rz, ez, eH⟩ => ⟨I2.kIn, ?_⟩
    subst ez; subst eH
    rw [hks]
    have nx : H2 (s2.heap.objs.size + 1) = none := I2.hok.fresh (Nat.le_succ _)
    have ndx : H2 s2.heap.objs.size = none := I2.hok.fresh (Nat.le_refl _)
    have ne : s2.heap.objs.size ≠ s2.heap.objs.size + 1 := Nat.ne_of_lt (Nat.lt_succ_self _)
    obtain ⟨I4, g4⟩ := I0.made (cls := cls) nx ndx ne
    have I3 := Inv.made (C := G.C cls) I2
    obtain ⟨zs', ez, ez2, ez3⟩ := hperm H2 _ (.ref (s2.heap.objs.size + 1)) zs ds v2 v3
    have L0 : ∀ b, (∃ (i : Nat) (xs : List D) (t : Tag), t ≠ .s ∧ env[i]? = some (some (.lst xs, t)) ∧ σ[i]? = some (some (.ref b))) → ∃ o, H2 b = some o := fun b ⟨i, xs, t, ht, h1, h2⟩ => by
      obtain ⟨a, k1, k2, _⟩ := I0.own i _ t ht h1
      rw [h2] at k1; injection k1 with k1; injection k1 with k1; injection k1 with k1; subst k1
      exact k2.2.some
    have LN : ∀ b, (∃ (i : Nat) (xs : List D) (t : Tag), t ≠ .s ∧ env[i]? = some (some (.lst xs, t)) ∧ σ[i]? = some (some (.ref b))) → ∀ ps, H2 b ≠ some (.tbl ps) := fun b ⟨i, xs, t, ht, h1, h2⟩ => by
      obtain ⟨a, k1, k2, _⟩ := I0.own i _ t ht h1
      rw [h2] at k1; injection k1 with k1; injection k1 with k1; injection k1 with k1; subst k1
      exact k2.2.nt
    have ex : Ext H2 (L2.upd (L2.upd H2 s2.heap.objs.size (.own (s2.heap.objs.size + 1))) (s2.heap.objs.size + 1) (.ins (G.C cls) s2.heap.objs.size [])) := (Ext.upd ndx).trans (Ext.upd (by rw [upd_ne (Ne.symm ne)]; exact nx))
    have gL : Grow (fun b => S b ∨ ∃ (i : Nat) (xs : List D) (t : Tag), t ≠ .s ∧ env[i]? = some (some (.lst xs, t)) ∧ σ[i]? = some (some (.ref b))) H2 (fun b => S b ∨ ∃ (i : Nat) (xs : List D) (t : Tag), t ≠ .s ∧ env[i]? = some (some (.lst xs, t)) ∧ σ[i]? = some (some (.ref b))) (L2.upd (L2.upd H2 s2.heap.objs.size (.own (s2.heap.objs.size + 1))) (s2.heap.objs.size + 1) (.ins (G.C cls) s2.heap.objs.size [])) := fun b hb => ⟨hb, by
      obtain ⟨o, ho⟩ := hb.elim (I0.shH b) (L0 b)
      rw [ex b o ho, ho]⟩
    have own4 := (I4.pend (s2.heap.objs.size + 1, .obj cls []) List.mem_cons_self).1
    have hsp : SpF G true n c (gV [.ref (s2.heap.objs.size + 1)] zs) (L2.upd (L2.upd H2 s2.heap.objs.size (.own (s2.heap.objs.size + 1))) (s2.heap.objs.size + 1) (.ins (G.C cls) s2.heap.objs.size [])) (fun v H' => v = .non ∧ Q (.ref (s2.heap.objs.size + 1)) H') (fun _ _ _ => False) := by
      rw [ez]
      refine ⟨by rw [List.length_cons]; omega, (fun b => S b ∨ ∃ (i : Nat) (xs : List D) (t : Tag), t ≠ .s ∧ env[i]? = some (some (.lst xs, t)) ∧ σ[i]? = some (some (.ref b))), .obj cls [] :: pd ds, some (s2.heap.objs.size + 1), rfl, ⟨fun b hb => ?_, I4.tab, fun b hb ps z => ?_⟩, ⟨_, pd ds, zs', rfl, rfl, ⟨fun hb => ?_, ⟨_, [], by rw [upd_same, List.zip_nil_right], Nat.zero_le _, .nil⟩⟩, ez3.mono gL⟩, ?_⟩
      · obtain ⟨o, ho⟩ := hb.elim (I0.shH b) (L0 b)
        exact ⟨o, ex b o ho⟩
      · rw [(gL b hb).2] at z
        exact hb.elim (fun h => I0.nt b h ps z) fun h => LN b h ps z
      · obtain ⟨o, ho⟩ := hb.elim (I0.shH _) (L0 _)
        rw [nx] at ho; cases ho
      · cases qc : c (.obj cls [] :: pd ds) with
        | bad => rw [qc] at h; exact h.elim
        | exc k fs f => rw [qc] at h; exact h.elim
        | ok d o f =>
          rw [qc] at h
          cases f with
          | none => exact h.elim
          | some f =>
            intro v H' S' P' J hf hv
            obtain ⟨f', hf, ho⟩ := hf
            injection hf with hf; subst hf
            cases d with
            | non =>
              cases f with
              | obj m fs =>
                simp only at h
                cases qn : noLstL fs with
                | false => rw [qn] at h; exact h.elim
                | true =>
                  rw [qn] at h
                  obtain ⟨I5, g5⟩ := I4.callPL (fun b hb => by obtain ⟨i, xs, t, a1, a2, a3⟩ := hb; exact ⟨i, xs, t, a1, a2, a3⟩) J ho qn
                  refine ⟨?_, h (.ref (s2.heap.objs.size + 1)) H' _ (g4.trans g5) ⟨_, rfl, I5⟩⟩
                  cases o with
                  | false => cases hv; rfl
                  | true => obtain ⟨_, _, _, hv⟩ := hv; exact hv.2.elim
              | _ => exact h.elim
            | _ => cases f <;> exact h.elim
    have r1 : Vals [V.ref (s2.heap.objs.size + 1)] [Value.ref (s2.heap.objs.size + 1)] := .cons rfl .nil
    refine wpAny_call (make_map (f := f) I2.kIn M.makes M.init (beq_iff_eq.mp M.fn) (codeAny_mono (F.run _ X.stack _ _ ⟨[Value.ref (s2.heap.objs.size + 1)], ks.zip ws⟩ (gg [Value.ref (s2.heap.objs.size + 1)] ws) _ _ _ (hr.make (G.C cls) [] (ks.zip ws)) (I3.env0.make (G.C cls) [] (ks.zip ws)) (hb.to _ _ ws I3.kIn rfl (by rw [← rz.length, v2, hik])) (hb.rel r1 rz) hsp) fun res s' hq => ?_))
    cases res with
    | error e =>
      obtain ⟨_, _, _, _, _, _, _, _, _, _, _, _, z⟩ := hq
      exact z.elim
    | ok fl =>
      cases fl with
      | ret u =>
        obtain ⟨v, H', I6, rv, ev, q3⟩ := I3.after hq
        subst ev
        exact ⟨rv, V.ref (s2.heap.objs.size + 1), H', I6, rfl, q3⟩
      | next => exact False.elim hq
      | brk => exact False.elim hq
      | cont => exact False.elim hq
end
end DL

set_option Elab.async false
set_option linter.all false
set_option maxRecDepth 100000
set_option maxHeartbeats 1000000
/-! DL22: sorted of a tuple of texts; the end of a law row. -/
namespace DL
open PySem PySem.Spec PyProof.Rows
section
variable {prog : Program} {w : World} {A : Around} {E : Value → Shared → Prop} {s : Shared}
/-- what a tuple holds, put into a new list -/
theorem collect_tup {l : Addr} {vs : List Value} {Q : List Value → Shared → Prop} (hl : s.heap.IsTuple l vs.toArray) (hz : vs.length ≤ sizeLine)
    (h : Q vs { s with heap := (s.heap.push (seqObj "list" #[] 0)).update s.heap.objs.size (Obj.mapSeq (· ++ vs.toArray)) }) : wpAny (model prog w) A (collect (.ref l)) Q E s := by
  obtain ⟨o, ho, hc, n, hd⟩ := id hl
  have hp : (s.heap.push (seqObj "list" #[] 0)).get? l = some o := Heap.get?_push_of_some _ ho
  have hN : (s.heap.push (seqObj "list" #[] 0)).get? s.heap.objs.size = some (seqObj "list" #[] 0) := Heap.get?_push_size _ rfl
  unfold collect
  refine wpAny_bind (wpAny_runValue (codeAny_builtin entry_proto_collect' ?_))
  show wpAny _ _ (do again (.builtin "list.__iadd__" ⟨[← newList [], .ref l], []⟩)) _ _ s
  refine wpAny_bind (wpAny_newList (wpAny_pure ⟨Code.quiet_builtin _ (by decide +kernel), codeAny_builtin entry_list_iadd' ?_⟩))
  show wpAny _ _ (Builtin.List.listExtendWith (.ref s.heap.objs.size) (.ref l) (.ref s.heap.objs.size)) _ _ { s with heap := s.heap.push (seqObj "list" #[] 0) }
  unfold Builtin.List.listExtendWith
  refine wpAny_bind (wpAny_typeOf (T := "tuple") ⟨o, hp, hc⟩ ?_)
  have ht : (Value.type "tuple" == Value.type "tuple") = true := by rfl
  rw [if_pos (by rw [ht]; simp)]
  refine wpAny_bind (listItems_at hp hd (wpAny_bind (listItems_at (xs := #[]) (n := 0) hN rfl ?_)))
  rw [if_neg (by simp)]
  refine wpAny_bind (listUpdate_at (xs := #[]) (n := 0) hN rfl (wpAny_pure ?_) (Nat.zero_le _) (by show (#[] ++ vs.toArray).size ≤ sizeLine + 1; simp only [Array.size_append, List.size_toArray, List.length_nil]; omega))
  show wpAny (model prog w) A (do
      let o ← load s.heap.objs.size
      match o.data with
      | .seq xs _ => pure xs.toList
      | _ => unsupported "internal:collect") Q E { s with heap := (s.heap.push (seqObj "list" #[] 0)).update s.heap.objs.size (Obj.mapSeq (· ++ vs.toArray)) }
  refine wpAny_bind (wpAny_load (get?_update_seq hN _) ?_)
  show wpAny _ _ (pure ((#[] : Array Value) ++ vs.toArray).toList) Q E _
  have e : ((#[] : Array Value) ++ vs.toArray).toList = vs := by simp
  rw [e]
  exact wpAny_pure h
theorem sorted_tup {l : Addr} {vs : List Value} {ss : List Str} {Q : Value → Shared → Prop} (hl : s.heap.IsTuple l vs.toArray) (hS : StrsAre vs ss) (h64 : vs.length < 64)
    (h : ∀ (out : Array Value) (ss' : List Str), StrsAre out.toList ss' → ss'.Perm ss → sortedS ss' = true → Q (.ref (s.heap.objs.size + 1)) { s with heap := sortedAll s.heap vs out }) :
    wpAny (model prog w) A (call (.builtin "sorted") [.ref l]) Q E s := by
  refine Calls.call_function_entry kind_sorted plain_sorted entry_sorted (args_sorted1 _) ?_
  unfold Builtin.«sorted»
  refine wpAny_bind (m := checkCount "sorted" 1 1 _) (wpAny_pure (wpAny_bind (collect_tup hl (by rw [sizeLine_eq]; omega) (wpAny_bind (wpAny_newList ?_)))))
  have hsz : ((s.heap.push (seqObj "list" #[] 0)).update s.heap.objs.size (Obj.mapSeq (· ++ vs.toArray))).objs.size = s.heap.objs.size + 1 := by rw [Heap.size_update, size_push']
  have hoL : (((s.heap.push (seqObj "list" #[] 0)).update s.heap.objs.size (Obj.mapSeq (· ++ vs.toArray))).push (seqObj "list" vs.toArray 0)).get? (s.heap.objs.size + 1) = some (seqObj "list" vs.toArray 0) := by
    rw [← hsz]; exact Heap.get?_push_size _ rfl
  show wpAny _ _ _ _ _ { s with heap := ((s.heap.push (seqObj "list" #[] 0)).update s.heap.objs.size (Obj.mapSeq (· ++ vs.toArray))).push (seqObj "list" vs.toArray 0) }
  rw [hsz]
  refine wpAny_bind (wpAny_holding (wpAny_call_entry slot_list_sort ⟨_, hoL, rfl⟩ entry_list_sort (list_sort_treeK strKind_oneLt hoL hS.keysOf (fun v₁ v₂ rest e => keyKind_strs (by rw [← e]; exact hS)) h64 fun st' hp hs => ⟨_, rfl, ?_⟩) (args_list_sort _)))
  obtain ⟨ss', h1, h2, h3⟩ := sorted_out_str hS hp hs
  exact wpAny_pure ⟨_, rfl, h _ ss' h1 h2 h3⟩
end
end DL
namespace DL
open PySem L2
/-- sorted(xs), a list or a tuple of fewer than 64 texts -/
def rSortQ (K : PySem.W.Frag) : List V → Hp → VK → Prop := fun vs H Q => ∃ (a : Addr) (xs : List Str), vs = [V.ref a] ∧ (SqL K H a (xs.map V.str) ∨ SqT K H a (xs.map V.str)) ∧ xs.length < 64 ∧
  ∀ (ys : List Str) (p : Addr), ys.Perm xs → PyProof.Rows.sortedS ys = true → H p = none → Q (.ref p) (L2.upd H p (.lst (ys.map V.str)))
section
variable {X : Cx} {G : Ctx}
theorem cr_sortQ : CallR X (.builtin "sorted") (rSortQ X.K) := by
  intro pins s σ H vs us Q I r h
  obtain ⟨a, xs, rfl, hs, h64, q⟩ := h
  rcases hs with hs | hs
  · exact cr_sortedS pins s σ H _ us Q I r ⟨a, xs, rfl, hs, h64, q⟩
  · obtain ⟨its, rv, hl, _⟩ := I.tuple hs
    rw [Vals.ref1 r]
    have hlen0 := rv.length
    rw [List.length_map] at hlen0
    refine sorted_tup hl rv.strs (by rw [← hlen0]; exact h64) fun out ys h1 h2 h3 => ?_
    obtain ⟨ep, he'⟩ := PyProof.Rows.sortedAll_at s.heap its out
    have hlen : (ys.map V.str).length ≤ sizeLine := by rw [List.length_map, h2.length_eq]; exact small64 h64
    have J := I.laid (a := s.heap.objs.size + 1) (t' := s.toks) (fun _ _ => PyProof.Rows.sortedAll_old) (Nat.le_succ _) (show ObjOk X.prog X.w (L2.upd H (s.heap.objs.size + 1) (.lst (ys.map V.str))) _ _ (.lst (ys.map V.str)) from ⟨hlen, out.toList, ep, vals_of_strs h1, he'⟩)
    exact ⟨.ref _, _, J, rfl, q ys _ h2 h3 (I.hok.fresh (Nat.le_succ _))⟩
def sortQ : D → RP
  | .lst xs => sortP (.lst xs)
  | .tup xs => sortP (.lst xs)
  | _ => none
theorem sortQ_ok {K : PySem.W.Frag} (hK : G.K = K) : P1 G (fun v H Q => rSortQ K [v] H Q) sortQ := fun H S v x d o Q hS rx e k => by
  cases x <;> simp only [sortQ, reduceCtorEq] at e
  case lst xs =>
    obtain ⟨a, ss, ev, h1, h2, h3⟩ := sortP_ok (K := K) H S v (.lst xs) d o Q hS rx e k
    exact ⟨a, ss, ev, .inl h1, h2, h3⟩
  case tup xs =>
    simp only [sortP] at e
    cases q : strsD xs with
    | none => simp [q] at e
    | some ss =>
      cases q2 : decide (ss.length < 64) with
      | false => simp [q, q2] at e
      | true =>
        simp [q, q2] at e
        obtain ⟨rfl, rfl⟩ := e
        obtain ⟨a, vs, rfl, h1, h2, h3⟩ := rx.tup hK
        obtain ⟨ev, hs⟩ := strs_rep h3 q
        subst ev
        have h64 := of_decide_eq_true q2
        refine ⟨a, ss, rfl, .inr h1, h64, fun ys p hp hs' hpn => ?_⟩
        have := sort_uniq hp hs'
        subst this
        exact k _ _ (New.lst hS hpn (rep_strs fun x hx => hs x ((sSort_perm ss).mem_iff.mp hx)) (by rw [List.length_map, (sSort_perm ss).length_eq]; exact small64 h64))
end
end DL

set_option Elab.async false
set_option linter.all false
set_option maxRecDepth 100000
set_option maxHeartbeats 1000000
/-! DL23: what is known of a def, of a class; short rules. -/
namespace DL
open PySem L2
/-- a def of the program: its name, its promise, the data of its defaults -/
structure Cal (P : Program) (w : World) (K : PySem.W.Frag) (mg : Str → Option Value) (base : Heap) (G : Ctx) (x : Str) (io : Bool) (n k : Nat) (c : FN) (dds : List D) : Prop where
  ex : ∃ (f : Addr) (fd : FuncData) (ps : List Str) (dvs : List V) (dus : List Value), FnOk P w K mg base (L2.CX P w) k f fd ps (SpF G io n c) ∧ mg x = some (.ref f) ∧ PySem.W.keepIn K (.ref f) = true ∧ Binds K fd ps dus ∧ Vals dvs dus ∧ dvs.length = dds.length ∧ ∀ (H : Hp) (S : Sset), RepL G H S dvs dds
/-- a class of the program: its number, its __init__'s promise -/
structure Mak (P : Program) (w : World) (K : PySem.W.Frag) (mg : Str → Option Value) (base : Heap) (G : Ctx) (x : Str) (cls n k : Nat) (c : FN) (dds : List D) : Prop where
  ex : ∃ (f : Addr) (fd : FuncData) (ps : List Str) (dvs : List V) (dus : List Value), Mk K (G.C cls) f ∧ FnOk P w K mg base (L2.CX P w) k f fd ps (SpF G true n c) ∧ mg x = some (.ref (G.C cls)) ∧ ps.length = n ∧ Binds K fd ps dus ∧ Vals dvs dus ∧ dvs.length = dds.length ∧ ∀ (H : Hp) (S : Sset), RepL G H S dvs dds
section
variable {X : Cx} {G : Ctx} {W : WX} {x : Str} {n k j : Nat} {c : FN} {dds : List D} {p pos : Pos} {e : Expr} {es : List Expr} {ms : List ME} {cls : Nat}
theorem de_cal (C : Cal X.prog X.w X.K X.mg X.base G x false n k c dds) (hr : Room j X.A) (hkj : k ≤ j) (hg : Gl X x) (tk : Takes X W) (ha : DA X G W (e :: es) ms) (hn : ms.length + dds.length = n) (hdb : (x == ("__debug__" : Str)) = false := by decide)
    (he : starEach (e :: es) X.env = (false, eval e X.env) :: starEach es X.env := by rfl) (hpl : (backTo pos (starEach es X.env)).any (·.1) = false := by rfl) : DE X G W (.Call (.Name x p) (e :: es) [] pos) (mCall c ms dds) := by
  obtain ⟨f, fd, ps, dvs, dus, F, hm, hk, hb, hd, hl, hdd⟩ := C.ex
  exact de_call F (hr.mono hkj) hg hm hk hb hd tk ha (by rw [hl]; exact hn) hdd hdb he hpl
theorem de_calIO {i : Nat} (C : Cal X.prog X.w X.K X.mg X.base G x true n k c dds) (hr : Room j X.A) (hkj : k ≤ j) (hg : Gl X x) (tk : Takes X W) (hv : PE X e (tVar i)) (ha : DA X G W es ms) (hn : 1 + ms.length + dds.length = n) (hdb : (x == ("__debug__" : Str)) = false := by decide)
    (he : starEach (e :: es) X.env = (false, eval e X.env) :: starEach es X.env := by rfl) (hpl : (backTo pos (starEach es X.env)).any (·.1) = false := by rfl) : DE X G W (.Call (.Name x p) (e :: es) [] pos) (mCallIO c i ms dds) := by
  obtain ⟨f, fd, ps, dvs, dus, F, hm, hk, hb, hd, hl, hdd⟩ := C.ex
  exact de_callIO F (hr.mono hkj) hg hm hk hb hd tk hv ha (by rw [hl]; exact hn) hdd hdb he hpl
theorem de_mak (C : Mak X.prog X.w X.K X.mg X.base G x cls n k c dds) (hr : Room j X.A) (hkj : k + 1 ≤ j) (hg : Gl X x) (tk : Takes X W) (ha : DA X G W (e :: es) ms) (hn : 1 + ms.length + dds.length = n) (hdb : (x == ("__debug__" : Str)) = false := by decide)
    (he : starEach (e :: es) X.env = (false, eval e X.env) :: starEach es X.env := by rfl) (hpl : (backTo pos (starEach es X.env)).any (·.1) = false := by rfl) : DE X G W (.Call (.Name x p) (e :: es) [] pos) (mMake c cls ms dds) := by
  obtain ⟨f, fd, ps, dvs, dus, M, F, hm, hps, hb, hd, hl, hdd⟩ := C.ex
  exact de_make M F (hr.mono hkj) hg hm hb hd tk ha (by rw [hl]; exact hn) hps hdd hdb he hpl
/-- a module's constant -/
theorem de_glob {v : V} {u : Value} {d : D} (hg : Gl X x) (hm : X.mg x = some u) (r : RelV v u) (rd : ∀ (H : Hp) (S : Sset), Rep G H S v d) (hd : (x == ("__debug__" : Str)) = false := by decide) : DE X G W (.Name x pos) (mC d) :=
  peImp (pe_glob hg hm r hd) fun σ H Q ⟨g, env, S, P, I, q⟩ => trE.pure I (rd H S) q rfl
/-- a class as a value -/
theorem pe_cls {C : Addr} (hg : Gl X x) (hm : X.mg x = some (.ref C)) (hd : (x == ("__debug__" : Str)) = false := by decide) : PE X (.Name x pos) (tC (.ref C)) := pe_glob hg hm rfl hd
theorem pe_ty {T : String} (hg : Gl X x) (hm : X.mg x = none) (hv : bootBuiltins x = some (.type T)) (hn : x ≠ "__name__" := by decide) (hd : (x == ("__debug__" : Str)) = false := by decide) : PE X (.Name x pos) (tC (.ty T)) := pe_bltn hg hm hv rfl hn hd
theorem un64 (r : Room k X.A) : X.A.units + 64 < cLine := by have := r.un; omega
theorem un66 (r : Room k X.A) : X.A.units + 66 < cLine := by have := r.un; omega
theorem un1 (r : Room k X.A) : X.A.units + 1 < cLine := by have := r.un; omega
end
end DL
namespace DL
open PySem L2
def listQ : D → RP := fun x => match x with | .scr _ => none | x => listP x
theorem listQ_ok {G : Ctx} {K : PySem.W.Frag} (hK : G.K = K) : P1 G (fun v H Q => ∃ p ys, [v] = [V.ref p] ∧ (SqL K H p ys ∨ SqT K H p ys) ∧ ∀ l, H l = none → Q (.ref l) (L2.upd H l (.lst ys))) listQ := listP_ok hK fun _ _ _ => trivial
def itSq (m : ME) : MI := bindI m fun d => match d with | .scr _ => none | d => itemsD d
section
variable {X : Cx} {G : Ctx} {W : WX} {x : Str} {n k j : Nat} {c : FN} {p pos : Pos} {e e1 e2 tg : Expr} {m m1 m2 : ME} {cls : Nat}
theorem di_sqQ (hK : G.K = X.K) (he : DE X G W e m) : DI X G W tg e (itSq m) := di_sq hK (fun _ => trivial) he
/-- a class of the program called with keywords -/
structure MakKw (P : Program) (w : World) (K : PySem.W.Frag) (mg : Str → Option Value) (base : Heap) (G : Ctx) (x : Str) (cls n k : Nat) (c : FN) (ks : List Str) (pd : List D → List D) : Prop where
  ex : ∃ (f : Addr) (fd : FuncData) (ps : List Str) (gg : List Value → List Value → List Value) (gV : List V → List V → List V), Mk K (G.C cls) f ∧ FnOk P w K mg base (L2.CX P w) k f fd ps (SpF G true n c) ∧ mg x = some (.ref (G.C cls)) ∧ ps.length = n ∧ KBn K fd ps 1 ks gg gV ∧
    ∀ (H : Hp) (S : Sset) (v : V) (zs : List V) (ds : List D), zs.length = ks.length → RepL G H S zs ds → ∃ ws, gV [v] zs = v :: ws ∧ 1 + ws.length = n ∧ RepL G H S ws (pd ds)
theorem de_makeKC {kws : List Keyword} {is : List Nat} {ks : List Str} {pd : List D → List D} (C : MakKw X.prog X.w X.K X.mg X.base G x cls n k c ks pd) (hr : Room j X.A) (hkj : k + 1 ≤ j) (hkw : KwV X kws is) (hg : Gl X x := by rfl) (hik : is.length = ks.length := by rfl)
    (hall : (backToKw pos (keywordEach kws X.env)).all (·.1.isSome) = true := by rfl) (hks : (backToKw pos (keywordEach kws X.env)).filterMap (·.1) = ks := by rfl) (hdb : (x == ("__debug__" : Str)) = false := by decide)
    (hpl : ((backTo pos (starEach [] X.env)).any (·.1) || (backToKw pos (keywordEach kws X.env)).any (·.1.isNone)) = false := by rfl) : DE X G W (.Call (.Name x p) [] kws pos) (mMakeK c cls is pd) := by
  obtain ⟨f, fd, ps, gg, gV, M, F, hm, hps, hb, hp⟩ := C.ex
  exact de_makeK M F (hr.mono hkj) hg hm hb hkw (fun H S v zs ds hz r => hp H S v zs ds (hz.trans hik) r) hik hps hall hks hdb hpl
/-- an own __eq__ -/
structure OwnC (P : Program) (w : World) (K : PySem.W.Frag) (mg : Str → Option Value) (base : Heap) (G : Ctx) (lefts oks : List Nat) (k : Nat) (c : FN) : Prop where
  ex : ∃ (f : Addr) (fd : FuncData) (ps : List Str), FnOk P w K mg base (L2.CX P w) k f fd ps (SpF G false 2 c) ∧ Binds K fd ps [] ∧ (∀ n, lefts.contains n = true → OwnE K (G.C n) f) ∧ (∀ n, oks.contains n = true → InsK K (G.C n)) ∧
    ∀ n d t, lefts.contains n = true → rightOk oks n d = true → tyVal G d = some t → PySem.W.notFirst K (G.C n) t = true
theorem de_ownC {neg : Bool} {op : CmpOp} {lefts oks : List Nat} (hop : op = if neg then .NotEq else .Eq) (hK : G.K = X.K) (C : OwnC X.prog X.w X.K X.mg X.base G lefts oks k c) (hr : Room j X.A) (hkj : k + 1 ≤ j) (h1 : DE X G W e1 m1) (h2 : DE X G W e2 m2) (hm : behindInMarks op e2 = false := by rfl) :
    DE X G W (.Compare e1 [op] [e2] pos) (mOwn neg c lefts oks m1 m2) := by
  obtain ⟨f, fd, ps, F, hb, ho, hi, hn⟩ := C.ex
  exact de_own hop hK F hb (hr.mono hkj) ho hi hn h1 h2 hm
theorem dt_ownC {neg : Bool} {op : CmpOp} {lefts oks : List Nat} (hop : op = if neg then .NotEq else .Eq) (hK : G.K = X.K) (C : OwnC X.prog X.w X.K X.mg X.base G lefts oks k c) (hr : Room j X.A) (hkj : k + 1 ≤ j) (h1 : DE X G W e1 m1) (h2 : DE X G W e2 m2) (hm : behindInMarks op e2 = false := by rfl) :
    DT X G W (.Compare e1 [op] [e2] pos) (mT (mOwn neg c lefts oks m1 m2)) := by
  obtain ⟨f, fd, ps, F, hb, ho, hi, hn⟩ := C.ex
  exact dt_own hop hK F hb (hr.mono hkj) ho hi hn h1 h2 hm
/-- a place in a class's body -/
def kidOf (s : Stmt) (i : Nat) : Stmt := match s with
  | .ClassDef _ _ _ b _ _ _ _ _ _ _ => b.getD i (.Pass ⟨0, 0, 0, 0⟩)
  | _ => .Pass ⟨0, 0, 0, 0⟩
end
end DL

set_option Elab.async false
set_option linter.all false
set_option maxRecDepth 100000
set_option maxHeartbeats 2000000
/-! DL24: the end of a law row whose law makes lambdas: the law is called from the very first frame. -/
namespace DL
open PySem PySem.Spec PyProof.Rows L2 LamX
open Classical in
/-- what is tracked at the law's entry: its table of code objects; the script, unless it is of the written part -/
noncomputable def entryH (K : PySem.W.Frag) (Pt a : Addr) (o : Obj) (ns : List Int) : Hp := fun b => if b = Pt then some (.tbl #[]) else if b = a ∧ K.lookup a = none then some (.frz o (.lst (ns.map V.int))) else none
section
variable {P : Program} {w : World} {K : PySem.W.Frag} {mg mb : Str → Option Value} {fa a c Pt : Addr} {s₁ : Shared} {vs : List Value} {ns : List Int}
theorem entry_at {o : Obj} {b : Addr} {u : HO} (h : entryH K Pt a o ns b = some u) : (b = Pt ∧ u = .tbl #[]) ∨ (b ≠ Pt ∧ b = a ∧ K.lookup a = none ∧ u = .frz o (.lst (ns.map V.int))) := by
  unfold entryH at h
  by_cases h1 : b = Pt
  · rw [if_pos h1] at h
    exact .inl ⟨h1, (Option.some.inj h).symm⟩
  · rw [if_neg h1] at h
    by_cases h2 : b = a ∧ K.lookup a = none
    · rw [if_pos h2] at h
      exact .inr ⟨h1, h2.1, h2.2, (Option.some.inj h).symm⟩
    · rw [if_neg h2] at h; cases h
theorem law_callD (KX : K.In s₁.heap) (hns : s₁.heap.Ns mainGlobals mg) (hb : s₁.heap.Ns builtinsNs mb) (hbb : ∀ x : Str, x ≠ "__name__" → mb x = bootBuiltins x) (hlim : s₁.heap.NoLimit) (hg : s₁.gens = #[])
    (hT : s₁.heap.get? Pt = some { cls := .none, data := .fields #[] }) (nT : K.lookup Pt = none) (C : PySem.W.CodeHd s₁.heap c Pt)
    (hbm : ∃ (bm : Addr) (ob : Obj), mg "__builtins__" = some (.ref bm) ∧ bm ≠ builtinsNs ∧ s₁.heap.get? bm = some ob ∧ ob.cls = .type "module" ∧ ob.dict = some builtinsNs ∧ ob.data = .plain)
    (ha : s₁.heap.get? a = some { cls := .type "list", data := .seq vs.toArray }) (hi : IntsAre vs ns) (hl : ns.length ≤ sizeLine)
    (G : Ctx) (hGK : G.K = K) (hGT : G.T.map (·.1) = [Pt])
    (F : ∀ (base : Heap) (H : Hp) (S : Sset), Env0 P w K mg base callerA [] s₁ H → K.In base → base.Ns mainGlobals mg → TabB base mg c Pt → ShOk G H S → Rep G H S (.ref a) (.scr ns) →
      codeAny (model P w) callerA (.call (.ref fa) ⟨[.ref a], []⟩) (CR (L2.CX P w) [] P w H s₁ (fun v _ => v = .bl true) fun _ _ _ => False) s₁) :
    codeAny (model P w) callerA (.call (.ref fa) ⟨[.ref a], []⟩) (fun r s' => r = .ok (.ret (.bool true)) ∧ OldK s₁.heap s'.heap ∧ s'.os = s₁.os ∧ AllBare s'.gens) s₁ := by
  have rv := vals_ints hi
  have lenV := hi.length
  have aPt : a ≠ Pt := fun z => by rw [z, hT] at ha; cases ha
  let o0 : Obj := { cls := .type "list", data := .seq vs.toArray }
  let H := entryH K Pt a o0 ns
  have atP : H Pt = some (.tbl #[]) := if_pos rfl
  have keepB : ∀ {b : Addr} {o : Obj}, s₁.heap.get? b = some o → (∀ xs n, o.data ≠ .seq xs n) → o.data ≠ .fields #[] → H b = none := fun {b o} e h1 h2 => by
    cases q : H b with
    | none => rfl
    | some u =>
      rcases entry_at q with ⟨e', _⟩ | ⟨_, e', _, _⟩
      · rw [e', hT] at e; cases e; exact absurd rfl h2
      · rw [e', ha] at e; cases e; exact absurd rfl (h1 _ _)
  have bs : ∀ {b : Addr} {o : Obj}, s₁.heap.get? b = some o → H b = none → (hidT s₁.heap H).get? b = some o := fun e n => hidT_get e n
  have hok : HOk P w H s₁.heap := fun b u e => by
    rcases entry_at e with ⟨rfl, rfl⟩ | ⟨_, rfl, _, rfl⟩
    · exact hT
    · exact ⟨ha, by rw [List.length_map]; exact hl, vs, _, rv, ha⟩
  have dictB : ∀ {b : Addr} {m : Str → Option Value}, s₁.heap.Ns b m → (hidT s₁.heap H).Ns b m := fun {b m} ⟨o, es, ep, e, d, r⟩ => ⟨o, es, ep, bs e (keepB e (fun xs n z => by rw [d] at z; cases z) fun z => by rw [d] at z; cases z), d, r⟩
  have hKb : K.In (hidT s₁.heap H) := fun b o e => bs (KX b o e) (by
    cases q : H b with
    | none => rfl
    | some u =>
      rcases entry_at q with ⟨rfl, _⟩ | ⟨_, rfl, nk, _⟩
      · rw [nT] at e; cases e
      · rw [nk] at e; cases e)
  have hM : L2.Mod K mg (hidT s₁.heap H) := ⟨hKb, dictB hns, ⟨mb, dictB hb, hbb⟩, let ⟨mc, h1, h2⟩ := hlim; ⟨mc, dictB h1, h2⟩⟩
  have TB : TabB (hidT s₁.heap H) mg c Pt := by
    refine ⟨?_, ?_, fun z => ?_⟩
    · obtain ⟨o, us, file, tf, flags, tg, inF, text, tt, e1, r1, r2, r3, r4⟩ := C
      exact ⟨o, us, file, tf, flags, tg, inF, text, tt, bs e1 (keepB e1 (fun xs n z => by rw [r2] at z; cases z) fun z => by rw [r2] at z; cases z; simp at r3), r1, r2, r3, r4⟩
    · obtain ⟨bm, ob, b1, b2, b3, b4, b5, b6⟩ := hbm
      refine ⟨bm, ob, b1, b2, fun q => ?_, fun q => ?_, bs b3 (keepB b3 (fun xs n z => by rw [b6] at z; cases z) fun z => by rw [b6] at z; cases z), b4, b5, b6⟩
      · obtain ⟨o, es, ep, e, hd, _⟩ := hns
        rw [q, e] at b3; cases b3
        rw [hd] at b6; cases b6
      · rw [q, hT] at b3; cases b3; cases b6
    · obtain ⟨o, es, ep, e, hd, _⟩ := hns
      rw [z, hT] at e; cases e; cases hd
  have e0 : Env0 P w K mg (hidT s₁.heap H) callerA [] s₁ H := ⟨rfl, hM, fun b o e => of_hidT e, Nat.le_of_eq (hidT_size _ _), trivial, fun b hb => absurd hb List.not_mem_nil, hok, .of_eq hg⟩
  let S : Sset := fun b => b = a ∧ K.lookup a = none
  have Hs : ∀ b, S b → H b = some (.frz o0 (.lst (ns.map V.int))) := fun b ⟨e, n⟩ => by
    subst e
    show (if b = Pt then _ else _) = _
    rw [if_neg aPt, if_pos ⟨rfl, n⟩]
  have sho : ShOk G H S := by
    refine ⟨fun b hb => ⟨_, Hs b hb⟩, fun p hp => ?_, fun b hb ps z => by rw [Hs b hb] at z; cases z⟩
    have : p.1 ∈ G.T.map (·.1) := List.mem_map_of_mem hp
    rw [hGT] at this
    have e := List.mem_singleton.mp this
    rw [e]
    exact TabS.nil atP
  have rep : Rep G H S (.ref a) (.scr ns) := by
    cases hk : K.lookup a with
    | none => exact .scr ⟨rfl, hk⟩ (Hs a ⟨rfl, hk⟩) hl
    | some o =>
      have e := KX a o hk
      rw [ha] at e; cases e
      exact .kscr (hGK ▸ ⟨_, vs.toArray, _, hk, rfl, rfl, rfl, by rw [List.size_toArray, lenV]; exact hl, by simpa using rv⟩) hl
  refine codeAny_mono (F _ H S e0 hKb (dictB hns) TB sho rep) fun r s' h => ?_
  cases r with
  | error e =>
    obtain ⟨_, _, _, _, _, _, _, _, _, _, _, _, z⟩ := h
    exact z.elim
  | ok fl =>
    cases fl with
    | next => exact False.elim h
    | brk => exact False.elim h
    | cont => exact False.elim h
    | ret u =>
      obtain ⟨v, H', os, bare, un, hok', r', q⟩ := h
      have q : v = .bl true := q
      subst q
      obtain rfl : u = Value.bool true := r'
      obtain ⟨more, hm⟩ := un.tbls Pt #[] atP
      have hm : s'.heap.get? Pt = some { cls := .none, data := .fields (#[] ++ more) } := hok' Pt _ hm
      have key : ∀ b o, b ≠ Pt → s₁.heap.get? b = some o → s'.heap.get? b = some o := fun b o nb e => by
        cases q : H b with
        | none => exact un.keep b o e q (fun z => absurd z List.not_mem_nil) (fun z => absurd z List.not_mem_nil)
        | some u =>
          rcases entry_at q with ⟨e', _⟩ | ⟨_, _, _, rfl⟩
          · exact absurd e' nb
          · obtain ⟨e1, _⟩ := hok b _ q
            obtain ⟨e2, _⟩ := hok' b _ (un.frzs b _ _ q)
            rw [e] at e1; cases e1
            exact e2
      refine ⟨rfl, ⟨fun b o e => ?_, fun b o e => ?_⟩, os, bare⟩
      · by_cases nb : b = Pt
        · subst nb
          rw [hT] at e; cases e
          exact .inr (.inl ⟨(C.tab hT).isCodeTable, rfl, #[], more, rfl, hm⟩)
        · exact .inl (key b o nb e)
      · by_cases nb : b = Pt
        · subst nb; exact ⟨_, hm⟩
        · exact ⟨o, key b o nb e⟩
end
/-- THE RULE for a def with defaults -/
theorem fn_okD {P : Program} {w : World} {K : PySem.W.Frag} {mg : Str → Option Value} {base : Heap} {G : Ctx} {x qual : Str} {st : Stmt} {f : Addr} {fd : FuncData} {dvs : List V} {kws : List (Str × V)} {N ps : List Str} {k : Nat} {io : Bool} {mb : MS} (F : FunD K x qual (defArgs st) (defBody st) (defScope st) dvs kws f fd) (Sc : FnScope N ps (defScope st)) (h0 : N ≠ []) (hio : io = true → ps ≠ [])
    (hb : ∀ (cdv : Value) (A : Around) (outer : List Env) (s : Shared) (H : Hp) (E : XK), Room k (A.deeper (PyProof.Rows.envOfC qual (defScope st) s.heap.objs.size f cdv)) →
      Takes (cxOf (L2.CX P w) P w K mg base N qual (defScope st) f cdv A outer s H E) (WD E) → DSs (cxOf (L2.CX P w) P w K mg base N qual (defScope st) f cdv A outer s H E) G (WD E) (defBody st) mb) :
    FnOk P w K mg base (L2.CX P w) (k + 1) f fd ps (SpF G io ps.length (mkFn N.length io mb)) := by
  obtain ⟨oc, od, dV, kV, doc, pm, an, cdv, ct, osl, rfl, lk, hcd, _, _⟩ := F.ex
  refine fn_of lk hcd Sc (fun vs H Q E h => h.1) fun A outer s H vs Q E hr h => ⟨_, hb cdv A outer s H E hr (takes_of rfl rfl rfl rfl), ?_⟩
  have hpl : ps.length ≤ N.length := by rw [← Sc.pre]; exact List.length_take_le' _ _
  exact sp_start (W := WD E) h hpl
/-- a def as the top names it -/
structure DefK (K : PySem.W.Frag) (x : Str) (st : Stmt) : Prop where
  ex : ∃ (f : Addr) (fd : FuncData), PySem.W.nsIn K mainGlobals x = some (some (.ref f)) ∧ Fun K x x st f fd
theorem defK {K : PySem.W.Frag} {x : Str} {st : Stmt} {f : Addr} {oc : Value} {od an : Option Addr} {osl : Array (Option Value)} {kV doc pm cdv ct : Value}
    (a : PySem.W.nsIn K mainGlobals x = some (some (.ref f))) (l : K.lookup f = some ⟨oc, od, .func (PySem.W.fnOf x x (defArgs st) (defBody st) (defScope st) .none kV doc pm an cdv ct), osl⟩) (c : PySem.W.codeIn K cdv x = true) (k : PySem.W.keepIn K (.ref f) = true) : DefK K x st :=
  ⟨_, _, a, fun_mk l c k⟩
theorem calOf {P : Program} {w : World} {K : PySem.W.Frag} {mg : Str → Option Value} {base h : Heap} {G : Ctx} {x : Str} {st : Stmt} {io : Bool} {n k : Nat} {c : FN} {ps : List Str} (X : K.In h) (N : h.Ns mainGlobals mg) (D : DefK K x st)
    (hb : ∀ f fd, Fun K x x st f fd → Binds K fd ps []) (ok : ∀ f fd, Fun K x x st f fd → FnOk P w K mg base (L2.CX P w) k f fd ps (SpF G io n c)) : Cal P w K mg base G x io n k c [] := by
  obtain ⟨f, fd, a, F⟩ := D.ex
  exact ⟨f, fd, ps, [], [], ok f fd F, PySem.W.mg_of X N a, F.kp, hb f fd F, .nil, rfl, fun _ _ => .nil⟩
end DL

set_option Elab.async false
set_option linter.all false
set_option maxRecDepth 100000
set_option maxHeartbeats 2000000
/-! DL25: a law row by its data reading, the law making lambdas. -/
namespace DL
open PySem PySem.Spec PyProof.Rows L2 LamX
/-- the law's def with its code object c and table Pt -/
structure LawD (K : PySem.W.Frag) (x : Str) (st : Stmt) (f c Pt : Addr) : Prop where
  ex : ∃ (oc : Value) (od : Option Addr) (kV doc pm : Value) (an : Option Addr) (ct : Value) (osl : Array (Option Value)) (dd : Option Addr) (vs : Array Value) (sl : Array (Option Value)) (file : Str) (tf : Tok) (flags : Int) (tg : Tok) (inF : Bool) (text : Int) (tt : Tok),
    K.lookup f = some ⟨oc, od, .func (PySem.W.fnOf x x (defArgs st) (defBody st) (defScope st) .none kV doc pm an (.ref c) ct), osl⟩ ∧ PySem.W.codeIn K (.ref c) x = true ∧
    K.lookup c = some ⟨.type "code", dd, .fields vs, sl⟩ ∧ vs[11]? = some (.ref Pt) ∧ vs.getD 18 .none = .str file tf ∧ vs.getD 7 .none = .int flags tg ∧ vs.getD 9 .none = .bool inF ∧ vs.getD 10 .none = .int text tt
  nT : K.lookup Pt = none
theorem LawD.hd {K : PySem.W.Frag} {x : Str} {st : Stmt} {f c Pt : Addr} (L : LawD K x st f c Pt) {h : Heap} (X : K.In h) : PySem.W.CodeHd h c Pt := by
  obtain ⟨oc, od, kV, doc, pm, an, ct, osl, dd, vs, sl, file, tf, flags, tg, inF, text, tt, l1, c1, l2, v11, v18, v7, v9, v10⟩ := L.ex
  refine ⟨_, vs, file, tf, flags, tg, inF, text, tt, X _ _ l2, rfl, rfl, v11, ?_, v18, v7, v9, v10, fun e => ?_⟩
  · rw [Array.getD_eq_getD_getElem?, v11]; rfl
  · rw [e, L.nT] at l2; cases l2
theorem walk_lawD {l : PySem.W.OpenLaw} {n k : Nat} {q : Program} {loose : List Str} {XP : (Str → Option Value) → Heap → Prop} {YP : World → Heap → Prop} {d : DefRec} {K : Params → PySem.W.Frag} {x : Str} {st : Stmt} {N : List Str} {mb : MS}
    (hn : l.most = some n) (hn2 : n ≤ sizeLine) (hdf : d.params.defaults = []) (hr : Room (k + 1) callerA) (hrec : ((recsOf q).any fun e => e.name == d.name) = true) (hY : ∀ (w : World) (h : Heap), YP w h → (K w.params).In h)
    (hx : d.name = x) (Sc : FnScope N [p] (defScope st))
    (hbd : ∀ (kV doc pm : Value) (an : Option Addr) (cdv ct : Value) (u : Value), bindArgs (PySem.W.fnOf x x (defArgs st) (defBody st) (defScope st) .none kV doc pm an cdv ct) ⟨[u], []⟩ = pure [(p, u)])
    (M : ∀ ns : List Int, ns.length ≤ n → ∃ f, mkFn N.length false mb [.scr ns] = .ok (.bl true) false f)
    (F : ∀ (w : World) (mg : Str → Option Value) (fa : Addr) (h : Heap), YP w h → (K w.params).In h → h.Ns mainGlobals mg → mg x = some (.ref fa) →
      ∃ (c Pt : Addr) (G : Ctx), LawD (K w.params) x st fa c Pt ∧ G.K = K w.params ∧ G.T.map (·.1) = [Pt] ∧ ∀ (base : Heap) (s : Shared) (H : Hp) (E : XK), (K w.params).In base → base.Ns mainGlobals mg → TabB base mg c Pt →
        Room k (callerA.deeper (envOfC x (defScope st) s.heap.objs.size fa (.ref c))) → (callerA.deeper (envOfC x (defScope st) s.heap.objs.size fa (.ref c))).guards = some [] →
        Takes (cxOf (L2.CX l.prog w) l.prog w (K w.params) mg base N x (defScope st) fa (.ref c) callerA [] s H E) (WD E) →
        DSs (cxOf (L2.CX l.prog w) l.prog w (K w.params) mg base N x (defScope st) fa (.ref c) callerA [] s H E) G (WD E) (defBody st) mb) :
    PySem.W.WalkO q loose XP YP l.row.toRowW d [] (fun f vs => PySem.call f vs) := by
  refine Att.attach_callB hn hdf fun w s₀ s₁ mg mb' fa o pm cd doc a vs ns G Y ho hd hcd hmg hobj hints hlen hbits hg => ?_
  have KX := hY w _ Y
  obtain ⟨c, Pt, GG, LD, hGK, hGT, hF⟩ := F w mg fa _ Y KX G.T.g (hx ▸ hmg)
  have C := LD.hd KX
  have hT : s₁.heap.get? Pt = some { cls := .none, data := .fields #[] } := by
    obtain ⟨oc, od, kV, doc, pm, an, ct, osl, dd, vs1, sl, file, tf, flags, tg, inF, text, tt, k1, c1, k4, k5, _⟩ := LD.ex
    obtain ⟨dL, hm, hn1⟩ := List.any_eq_true.mp hrec
    have hn2 : dL.name = d.name := beq_iff_eq.mp hn1
    obtain ⟨a', o', fd', c', P', h1, h2, h3, h4, h5, h6⟩ := G.T.tab dL hm
    rw [hn2, hmg] at h1
    cases h1
    have g1 := KX _ _ k1
    rw [g1] at h2
    cases h2
    cases h3
    cases h4
    obtain ⟨⟨oc, vc, e1, _, e3, e4⟩, hP⟩ := h6
    have g2 := KX _ _ k4
    rw [g2] at e1
    cases e1
    cases e3
    rw [k5] at e4
    cases e4
    exact hP
  refine law_callD KX G.T.g G.T.b G.T.builtins G.T.nolimit hg hT LD.nT C G.T.bmain hobj hints (Nat.le_trans hlen hn2) GG hGK hGT fun base H S e0 KB NB TB sho rep => ?_
  obtain ⟨oc, od, kV, doc, pm, an, ct, osl, dd, vs1, sl, file, tf, flags, tg, inF, text, tt, k1, c1, k4, k5, _⟩ := LD.ex
  refine run_ofS (CX := L2.CX l.prog w) (N := N) (ps := [p]) (us := [.ref a]) (vs := [.ref a]) k1 c1 Sc hr e0 (.of_eq (hbd kV doc pm an (.ref c) ct (.ref a))) (.cons rfl .nil) rfl fun hr' => ?_
  refine ⟨_, hF base s₁ H _ KB NB TB hr' rfl (takes_of rfl rfl rfl rfl), ?_⟩
  have hpl : 1 ≤ N.length := by
    have := Sc.pre
    cases N with
    | nil => cases this
    | cons x r => exact Nat.succ_le_succ (Nat.zero_le _)
  refine sp_start (io := false) (n := 1) (W := WD fun _ _ _ => False) (Q := fun v _ => v = V.bl true) (E := fun _ _ _ => False) ?_ hpl
  obtain ⟨f2, hM⟩ := M ns hlen
  refine ⟨rfl, S, [.scr ns], none, rfl, sho, RepL.cons rep .nil, ?_⟩
  rw [hM]
  intro v H' S' P' _ _ r
  have r : Rep GG H' S' v (.bl true) := r
  cases r
  rfl
end DL

set_option Elab.async false
set_option linter.all false
set_option maxRecDepth 100000
set_option maxHeartbeats 1000000
/-! DL26: how readings are evaluated: one equation for each combinator. -/
namespace DL
open PySem
abbrev Sl := Option (D × Tag)
section
variable {env e e1 e2 : EV} {i j : Nat} {m m1 m2 : ME} {x y d : D} {o o1 o2 : Bool} {t : Tag} {a b : MS} {k : Bool} {tt t1 t2 : MT}
theorem ev_seq (h : a env = .nx e) : mSeq a b env = b e := by
  unfold mSeq; rw [h]
theorem ev_seqR (h : a env = .rt d o e) : mSeq a b env = .rt d o e := by
  unfold mSeq; rw [h]
theorem ev_seqX {c : Nat} {fs : List D} (h : a env = .exc c fs e) : mSeq a b env = .exc c fs e := by
  unfold mSeq; rw [h]
theorem ev_set (h : m env = .ok d o e) (hf : freeE e i = true) : mSet i m env = .nx (e.set i (some (d, tg o))) := by
  unfold mSet bindS; rw [h]; unfold setE; simp only [hf]
theorem ev_if (h : tt env = .ok k e) : mIfS tt a b env = (match k with | true => a | false => b) e := by
  unfold mIfS bindTS; rw [h]; try rfl
theorem ev_ifT (h : tt env = .ok true e) : mIfS tt a b env = a e := ev_if h
theorem ev_ifF (h : tt env = .ok false e) : mIfS tt a b env = b e := ev_if h
theorem ev_ifN (h : tt env = .ok false e) : mIfS tt a mNext env = .nx e := ev_if h
theorem ev_ret (h : m env = .ok d o e) : mRet m env = .rt d o e := by
  unfold mRet bindS; rw [h]
theorem ev_expr (h : m env = .ok d o e) : mExpr m env = .nx e := by
  unfold mExpr bindS; rw [h]
theorem ev_xx {p : D → D → RP} (h1 : m1 env = .ok x o1 e1) (h2 : m2 e1 = .ok y o2 e2) (hp : p x y = some (d, o)) : mO2 p (.ex m1) (.ex m2) env = .ok d o e2 := by
  show (match m1 env with
    | .ok d _ e => bindO (.ex m2) (fun pb env => match dat (.da d) env, dat pb env with
      | some x, some y => liftP (p x y) env
      | _, _ => .bad) e
    | .exc c fs e => .exc c fs e
    | .bad => .bad) = _
  rw [h1]
  show (match m2 e1 with
    | .ok d _ e => liftP (p x d) e
    | .exc c fs e => .exc c fs e
    | .bad => .bad) = _
  rw [h2]
  show liftP (p x y) e2 = _
  rw [hp]
  rfl
theorem ev_xp {p : D → D → RP} (h1 : m1 env = .ok x o1 e1) (h2 : e1[j]? = some (some (y, t))) (hp : p x y = some (d, o)) : mO2 p (.ex m1) (.pl j) env = .ok d o e1 := by
  show (match m1 env with
    | .ok d _ e => bindO (.pl j) (fun pb env => match dat (.da d) env, dat pb env with
      | some x, some y => liftP (p x y) env
      | _, _ => .bad) e
    | .exc c fs e => .exc c fs e
    | .bad => .bad) = _
  rw [h1]
  show (match e1[j]? with
    | some (some _) => (match some x, (match e1[j]? with | some (some (d, _)) => some d | _ => none) with
      | some x, some y => liftP (p x y) e1
      | _, _ => .bad)
    | _ => .bad) = _
  rw [h2]
  show liftP (p x y) e1 = _
  rw [hp]
  rfl
theorem ev_px {p : D → D → RP} {t' : Tag} {x0 : D} (h0 : env[i]? = some (some (x0, t'))) (h2 : m2 env = .ok y o2 e2) (h1 : e2[i]? = some (some (x, t))) (hp : p x y = some (d, o)) : mO2 p (.pl i) (.ex m2) env = .ok d o e2 := by
  show (match env[i]? with
    | some (some _) => bindO (.ex m2) (fun pb env => match dat (.pl i) env, dat pb env with
      | some x, some y => liftP (p x y) env
      | _, _ => .bad) env
    | _ => .bad) = _
  rw [h0]
  show (match m2 env with
    | .ok d _ e => (match (match e[i]? with | some (some (d, _)) => some d | _ => none), some d with
      | some x, some y => liftP (p x y) e
      | _, _ => .bad)
    | .exc c fs e => .exc c fs e
    | .bad => .bad) = _
  rw [h2]
  show (match (match e2[i]? with | some (some (d, _)) => some d | _ => none), some y with
      | some x, some y => liftP (p x y) e2
      | _, _ => .bad) = _
  rw [h1]
  show liftP (p x y) e2 = _
  rw [hp]
  rfl
theorem ev_pp {p : D → D → RP} {t' : Tag} (h1 : env[i]? = some (some (x, t))) (h2 : env[j]? = some (some (y, t'))) (hp : p x y = some (d, o)) : mO2 p (.pl i) (.pl j) env = .ok d o env := by
  show (match env[i]? with
    | some (some _) => (match env[j]? with
      | some (some _) => (match (match env[i]? with | some (some (d, _)) => some d | _ => none), (match env[j]? with | some (some (d, _)) => some d | _ => none) with
        | some x, some y => liftP (p x y) env
        | _, _ => .bad)
      | _ => .bad)
    | _ => .bad) = _
  rw [h1, h2]
  show liftP (p x y) env = _
  rw [hp]
  rfl
theorem ev_x {p : D → RP} (h1 : m env = .ok x o1 e1) (hp : p x = some (d, o)) : mO1 p (.ex m) env = .ok d o e1 := by
  show (match m env with
    | .ok d _ e => liftP (p d) e
    | .exc c fs e => .exc c fs e
    | .bad => .bad) = _
  rw [h1]
  show liftP (p x) e1 = _
  rw [hp]
  rfl
theorem ev_p {p : D → RP} (h1 : env[i]? = some (some (x, t))) (hp : p x = some (d, o)) : mO1 p (.pl i) env = .ok d o env := by
  show (match env[i]? with
    | some (some _) => (match (match env[i]? with | some (some (d, _)) => some d | _ => none) with
      | some x => liftP (p x) env
      | _ => .bad)
    | _ => .bad) = _
  rw [h1]
  show liftP (p x) env = _
  rw [hp]
  rfl
theorem ev_T {k : Bool} (h : m env = .ok (.bl k) o e) : mT m env = .ok k e := by
  unfold mT; rw [h]
theorem ev_not (h : tt env = .ok k e) : mNotT tt env = .ok (!k) e := by
  unfold mNotT bindT; rw [h]
theorem ev_orT (h : t1 env = .ok true e) : mOrT t1 t2 env = .ok true e := by
  unfold mOrT bindT; rw [h]
theorem ev_orF (h : t1 env = .ok false e) : mOrT t1 t2 env = t2 e := by
  unfold mOrT bindT; rw [h]
theorem ev_andT (h : t1 env = .ok true e) : mAndT t1 t2 env = t2 e := by
  unfold mAndT bindT; rw [h]
theorem ev_andF (h : t1 env = .ok false e) : mAndT t1 t2 env = .ok false e := by
  unfold mAndT bindT; rw [h]
theorem ev_ifE (h : tt env = .ok k e) : mIf tt m1 m2 env = (match k with | true => m1 | false => m2) e := by
  unfold mIf bindTE; rw [h]; try rfl
theorem ev_vs (h : env[i]? = some (some (d, .s))) : mV i env = .ok d false env := by
  unfold mV; rw [h]
theorem ev_vo (h : env[i]? = some (some (d, .o))) : mV i env = .ok d false (env.set i (some (d, .s))) := by
  unfold mV; rw [h]
theorem ev_un {tgt : Tgt} (h : m env = .ok d false e) (hs : setTg tgt d e = some e1) : mUn tgt m env = .nx e1 := by
  unfold mUn bindS; rw [h]; simp only [hs]
/-! ### lists of expressions -/
theorem ev_nil : evL [] env = .ok [] env := rfl
variable {ms : List ME} {ds dds : List D} {c : FN}
theorem ev_cons (h1 : m env = .ok d o e1) (h2 : evL ms e1 = .ok ds e2) : evL (m :: ms) env = .ok (d :: ds) e2 := by
  simp only [evL, h1, h2]
theorem ev_bindL {k : List D → ME} (h : evL ms env = .ok ds e) : bindL ms k env = k ds e := by
  unfold bindL; rw [h]
theorem ev_tup (h : evL ms env = .ok ds e) : mTup ms env = .ok (.tup ds) false e := by
  unfold mTup; rw [ev_bindL h]; rfl
theorem ev_lst (h : evL ms env = .ok ds e) : mLst ms env = .ok (.lst ds) true e := by
  unfold mLst; rw [ev_bindL h]; rfl
theorem ev_call {f : Option D} (h : evL ms env = .ok ds e) (hc : c (ds ++ dds) = .ok d o f) : mCall c ms dds env = .ok d o e := by
  unfold mCall; rw [ev_bindL h, hc]; rfl
theorem ev_callIO {x0 x f : D} {t0 : Tag} (h0 : env[i]? = some (some (x0, t0))) (h : evL ms env = .ok ds e) (h1 : e[i]? = some (some (x, t))) (ht : t ≠ .s) (hc : c (x :: (ds ++ dds)) = .ok d o (some f)) : mCallIO c i ms dds env = .ok d o (e.set i (some (f, t))) := by
  show (match env[i]? with
    | some (some _) => bindL ms (fun ds env => match env[i]? with
      | some (some (d, t)) => match t with
        | .s => .bad
        | _ => ansE (some i) (c (d :: (ds ++ dds))) env
      | _ => .bad) env
    | _ => .bad) = _
  rw [h0]
  show bindL ms _ env = _
  rw [ev_bindL h]
  simp only [h1]
  have key : ansE (some i) (c (x :: (ds ++ dds))) e = .ok d o (e.set i (some (f, t))) := by
    unfold ansE
    simp only [h1, hc]
  cases t with
  | s => exact absurd rfl ht
  | p => exact key
  | o => exact key
theorem ev_make {cls : Nat} {f : D} (h : evL ms env = .ok ds e) (hc : c (.obj cls [] :: (ds ++ dds)) = .ok .non false (some f)) : mMake c cls ms dds env = .ok f true e := by
  unfold mMake; rw [ev_bindL h]; unfold makeE; rw [hc]
theorem ev_makeX {cls n : Nat} {fs : List D} {f : Option D} (h : evL ms env = .ok ds e) (hc : c (.obj cls [] :: (ds ++ dds)) = .exc n fs f) : mMake c cls ms dds env = .exc n fs e := by
  unfold mMake; rw [ev_bindL h]; unfold makeE; rw [hc]
theorem ev_mt {p : D → List D → Option (D × D)} {xs : List D} {t0 : Tag} {d' : D} (h0 : env[i]? = some (some (.lst xs, t0))) (ht0 : t0 ≠ .s) (h : evL ms env = .ok ds e) (h1 : e[i]? = some (some (d, t))) (ht : t ≠ .s) (hp : p d ds = some (d', x)) : mMt i p ms env = .ok x false (e.set i (some (d', t))) := by
  have hi : isLst env i = true := by
    unfold isLst
    rw [h0]
    cases t0 <;> first | rfl | exact absurd rfl ht0
  unfold mMt
  simp only [hi]
  rw [ev_bindL h]
  have hd : datI e i = d := by
    unfold datI; rw [h1]
  rw [hd, hp]
  unfold updM
  simp only [h1]
/-! ### arithmetic -/
theorem modP_i {a b : Int} (h : b ≠ 0) : modP (.int a) (.int b) = some (.int (a.fmod b), false) := by
  show (match decide (b ≠ 0) with | true => some (D.int (a.fmod b), false) | false => none) = _
  rw [decide_eq_true h]
theorem divP_i {a b : Int} (h : b ≠ 0) (h2 : b.natAbs < 1073741824) : divP (.int a) (.int b) = some (.int (a.fdiv b), false) := by
  show (match (decide (b ≠ 0) && decide (b.natAbs < 1073741824)) with | true => some (D.int (a.fdiv b), false) | false => none) = _
  rw [decide_eq_true h, decide_eq_true h2]; rfl
theorem mulP_i {a b : Int} (h : -(2 ^ 64) < b ∧ b < 2 ^ 64) : mulP (.int a) (.int b) = some (.int (a * b), false) := by
  show (match cMul a b with | true => some (D.int (a * b), false) | false => none) = _
  have : cMul a b = true := by
    unfold cMul
    rw [decide_eq_true h.1, decide_eq_true h.2]
    simp
  rw [this]
theorem mulP_j {a b : Int} (h : -(2 ^ 64) < a ∧ a < 2 ^ 64) : mulP (.int a) (.int b) = some (.int (a * b), false) := by
  show (match cMul a b with | true => some (D.int (a * b), false) | false => none) = _
  have : cMul a b = true := by
    unfold cMul
    rw [decide_eq_true h.1, decide_eq_true h.2]
    simp
  rw [this]
theorem powP_i {a : Int} {k : Nat} (h : a.natAbs < 2 ^ 64) (hk : k ≤ 1000000) : powP (.int a) (.int k) = some (.int (a ^ k), false) := by
  show (match cPow a k with | true => some (D.int (a ^ (k : Int).toNat), false) | false => none) = _
  have : cPow a k = true := by
    unfold cPow
    rw [decide_eq_true h, decide_eq_true (by omega), decide_eq_true (by omega)]
    rfl
  rw [this]
  rfl
theorem atI_nat {α : Type} {xs : List α} {i : Int} (h0 : 0 ≤ i) (h1 : i < xs.length) : L2.atI xs i = xs[i.toNat]? := by
  unfold L2.atI L2.ixN
  rw [if_pos h0, if_pos h1]
  rfl
theorem ixP_l {ds : List D} {i : Int} {x : D} (h0 : 0 ≤ i) (h : ds[i.toNat]? = some x) : ixP (.lst ds) (.int i) = some (x, false) := by
  have hl := (List.getElem?_eq_some_iff.mp h).1
  show (L2.atI ds i).map (fun d => (d, false)) = _
  rw [atI_nat h0 (by omega), h]
  rfl
end
end DL

set_option Elab.async false
set_option linter.all false
set_option maxRecDepth 100000
set_option maxHeartbeats 2000000
/-! K01A: the defs of law k01, each with its reading. Printed by k01.py. -/
namespace K01
open PySem PySem.Spec PyProof.Rows L2 DL
def top (i : Nat) : Stmt := PySem.Challenge.pw_neverabove_k01_tables_made_and_refused.main.body.getD i (.Pass ⟨0, 0, 0, 0⟩)
abbrev s_is_name : Stmt := top 3
abbrev s_is_listed : Stmt := top 4
abbrev s_ascends : Stmt := top 5
abbrev s_are_unlike : Stmt := top 6
abbrev s_are_names : Stmt := top 7
abbrev s_Table___init__ : Stmt := kidOf (top 26) 0
abbrev s_Table___eq__ : Stmt := kidOf (top 26) 1
abbrev s__law_pen : Stmt := top 28
abbrev s__law_draw : Stmt := top 29
abbrev s__law_pick : Stmt := top 30
abbrev s__law_mixed : Stmt := top 31
abbrev s__law_heard : Stmt := top 32
abbrev s__law_name : Stmt := top 33
abbrev s_law : Stmt := top 34
def fieldsOf : Nat → List Str
  | 0 => ["name", "columns", "unique", "kind"]
  | 1 => ["part"]
  | _ => []
abbrev ctx (K : PySem.W.Frag) (CA : Nat → Addr) (tt : List (Addr × Str)) : DL.Ctx := ⟨K, CA, fieldsOf, tt⟩
def anc : Nat → List Nat
  | 0 => [0]
  | 1 => [1]
  | _ => []
def ix_name : Nat → Option Nat
  | 0 => some 0
  | _ => none
def ix_columns : Nat → Option Nat
  | 0 => some 1
  | _ => none
def ix_unique : Nat → Option Nat
  | 0 => some 2
  | _ => none
def ix_kind : Nat → Option Nat
  | 0 => some 3
  | _ => none
def ix_x_part : Nat → Option Nat
  | 1 => some 0
  | _ => none
def ix_x_value : Nat → Option Nat := fun _ => none
def ix_x_at : Nat → Option Nat := fun _ => none
def ix_x_what : Nat → Option Nat := fun _ => none
def ix_x_most : Nat → Option Nat := fun _ => none
def hs_MostError : Nat → Option Bool
  | 1 => some true
  | _ => none
def permK : List D → List D
  | [a, b, c, d] => [d, c, b, a]
  | l => l
/-- what the top has written -/
structure Txt (P : Program) (K : PySem.W.Frag) (mg : Str → Option Value) (CA : Nat → Addr) (CM fI : Addr) (tt : List (Addr × Str)) : Prop where
  n_len : mg "len" = none
  n_all : mg "all" = none
  n_sorted : mg "sorted" = none
  n_abs : mg "abs" = none
  n_zip : mg "zip" = none
  n_range : mg "range" = none
  n_repr : mg "repr" = none
  n_isinstance : mg "isinstance" = none
  n_str : mg "str" = none
  n_list : mg "list" = none
  n_tuple : mg "tuple" = none
  n_int : mg "int" = none
  v_LETTERS : ∃ t, mg "LETTERS" = some (.str "abcdefghijklmnopqrstuvwxyz" t)
  v_MOST_SIGNS : ∃ t, mg "MOST_SIGNS" = some (.int 8 t)
  v_MOST_COLUMNS : ∃ t, mg "MOST_COLUMNS" = some (.int 5 t)
  v_KINDS : ∃ a, mg "KINDS" = some (.ref a) ∧ KTup K a [.str "heap", .str "set"]
  ins : ∀ c, [0].contains c = true → InsK K (CA c)
  k_str : KitOk K (ctx K CA tt) anc [0] .str
  k_list : KitOk K (ctx K CA tt) anc [0] .list
  k_tuple : KitOk K (ctx K CA tt) anc [0] .tuple
  k_Table : KitOk K (ctx K CA tt) anc [0] (.own 0)
  g_Table : mg "Table" = some (.ref (CA 0))
  g_BadTable : mg "BadTable" = some (.ref (CA 1))
  g_BadPlan : mg "BadPlan" = some (.ref (CA 2))
  g_BadWorld : mg "BadWorld" = some (.ref (CA 3))
  g_BadWeights : mg "BadWeights" = some (.ref (CA 4))
  g_BadSizes : mg "BadSizes" = some (.ref (CA 5))
  g_BadColours : mg "BadColours" = some (.ref (CA 6))
  g_BadQuery : mg "BadQuery" = some (.ref (CA 7))
  g_Unlike : mg "Unlike" = some (.ref (CA 8))
  g_BadName : mg "BadName" = some (.ref (CA 9))
  g_BadChoice : mg "BadChoice" = some (.ref (CA 10))
  g_BadNumber : mg "BadNumber" = some (.ref (CA 11))
  g_BadStep : mg "BadStep" = some (.ref (CA 12))
  g_TooMany : mg "TooMany" = some (.ref (CA 13))
  g_MostError : mg "MostError" = some (.ref CM)
  f_name : FldOk K (ctx K CA tt) "name" ix_name
  f_columns : FldOk K (ctx K CA tt) "columns" ix_columns
  f_unique : FldOk K (ctx K CA tt) "unique" ix_unique
  f_kind : FldOk K (ctx K CA tt) "kind" ix_kind
  x_BadTable : ExT P K mg (CA 1) fI "part"
  xk : ∀ c, decide (1 ≤ c ∧ c ≤ 13) = true → ∀ k, [1].contains k = true → ExcC K (CA k) ∧ PySem.W.kitOne K (.ref (CA k)) (.ref (CA c)) = some ((anc k).contains c)
  fx_part : FldX K (ctx K CA tt) "part" ix_x_part
  hs_MostError : ∀ c b, hs_MostError c = some b → PySem.W.exmOne K (.ref (CA c)) (.ref CM) = some b
section
variable {P : Program} {w : World} {K : PySem.W.Frag} {mg : Str → Option Value} {base : Heap} {CA : Nat → Addr} {CM fI : Addr} {tt : List (Addr × Str)} {X : Cx} {W : WX} {pos : Pos}
theorem Txt.fl (_T : Txt P K mg CA CM fI tt) : ∀ c, ((ctx K CA tt).F c).length ≤ 900 := fun c => by
  show (fieldsOf c).length ≤ 900
  unfold fieldsOf
  split <;> decide
theorem Txt.fx_value (_T : Txt P K mg CA CM fI tt) : FldX K (ctx K CA tt) "value" ix_x_value := fun _ _ h => by cases h
theorem Txt.fx_at (_T : Txt P K mg CA CM fI tt) : FldX K (ctx K CA tt) "at" ix_x_at := fun _ _ h => by cases h
theorem Txt.fx_what (_T : Txt P K mg CA CM fI tt) : FldX K (ctx K CA tt) "what" ix_x_what := fun _ _ h => by cases h
theorem Txt.fx_most (_T : Txt P K mg CA CM fI tt) : FldX K (ctx K CA tt) "most" ix_x_most := fun _ _ h => by cases h
theorem Txt.c_LETTERS (T : Txt P K mg CA CM fI tt) (hg : Gl X "LETTERS") (hm : X.mg = mg) : DE X (ctx K CA tt) W (.Name "LETTERS" pos) (mC (.str "abcdefghijklmnopqrstuvwxyz")) := by
  obtain ⟨t, h⟩ := T.v_LETTERS
  exact de_glob (v := .str "abcdefghijklmnopqrstuvwxyz") hg (by rw [hm]; exact h) ⟨t, rfl⟩ fun _ _ => .str (by decide +kernel)
theorem Txt.c_MOST_SIGNS (T : Txt P K mg CA CM fI tt) (hg : Gl X "MOST_SIGNS") (hm : X.mg = mg) : DE X (ctx K CA tt) W (.Name "MOST_SIGNS" pos) (mC (.int 8)) := by
  obtain ⟨t, h⟩ := T.v_MOST_SIGNS
  exact de_glob (v := .int 8) hg (by rw [hm]; exact h) ⟨t, rfl⟩ fun _ _ => .int
theorem Txt.c_MOST_COLUMNS (T : Txt P K mg CA CM fI tt) (hg : Gl X "MOST_COLUMNS") (hm : X.mg = mg) : DE X (ctx K CA tt) W (.Name "MOST_COLUMNS" pos) (mC (.int 5)) := by
  obtain ⟨t, h⟩ := T.v_MOST_COLUMNS
  exact de_glob (v := .int 5) hg (by rw [hm]; exact h) ⟨t, rfl⟩ fun _ _ => .int
theorem Txt.c_KINDS (T : Txt P K mg CA CM fI tt) (hg : Gl X "KINDS") (hm : X.mg = mg) : DE X (ctx K CA tt) W (.Name "KINDS" pos) (mC (.tup [.str "heap", .str "set"])) := by
  obtain ⟨a, h, k⟩ := T.v_KINDS
  exact de_glob (v := .ref a) hg (by rw [hm]; exact h) rfl fun _ _ => .ktup k (.cons (.str (by decide +kernel)) (.cons (.str (by decide +kernel)) .nil))
end
/-! ### is_name -/
abbrev n_is_name : List Str := ["value", "sign"]
def b_is_name : MS :=
    mRet (mAndV (mO1 (isiP anc [0] [.str]) (.pl 0)) (mAndV (mCh (cmpP fun i j => decide (i ≤ j)) (cmpP fun i j => decide (i ≤ j)) (mC (.int 1)) (mO1 lenP (.pl 0)) (mC (.int 8))) (mO1 allP (.ex (mLc (.nm 1) [1] (itSq (mV 0)) (mYes) (mO2 (inP false) (.pl 1) (.ex (mC (.str "abcdefghijklmnopqrstuvwxyz")))))))))
def c_is_name : FN := mkFn 2 false b_is_name
theorem sc_is_name : FnScope n_is_name ["value"] (defScope s_is_name) := ⟨rfl, rfl, rfl, by decide +kernel, rfl, by decide +kernel, by decide +kernel⟩
theorem ok_is_name {P : Program} {w : World} {K : PySem.W.Frag} {mg : Str → Option Value} {base : Heap} {CA : Nat → Addr} {CM fI : Addr} {tt : List (Addr × Str)} (T : Txt P K mg CA CM fI tt)  {f : Addr} {fd : FuncData} (F : Fun K "is_name" "is_name" s_is_name f fd) :
    FnOk P w K mg base (L2.CX P w) 2 f fd ["value"] (SpF (ctx K CA tt) false 1 c_is_name) :=
  have ND := sc_is_name.nd
  have hK : (ctx K CA tt).K = K := rfl
  fn_ok F sc_is_name (by decide) (fun _ => by decide) fun cdv A outer s H E hr tk =>
    dss_one (ds_ret (de_and (de_isi hK T.ins T.k_str rfl T.n_isinstance (pv 0) (pe_ty rfl T.n_str (by decide +kernel))) (de_and (de_chain (op_le) (op_le) (cmpP_ok) (cmpP_ok) (de_int) (de_b1 call_len (lenP_ok hK) rfl T.n_len (by decide +kernel) (pv 0)) (T.c_MOST_SIGNS rfl rfl)) (de_one (de_b1 (cr_all rfl) (allP_ok) rfl T.n_all (by decide +kernel) (de_lc (own := [("sign", 1)]) rfl ND (di_sqQ hK (de_v (pv 0))) (by rfl) (fun _ _ _ _ _ => dg_nm ND rfl (.inl rfl)) (fun _ _ _ _ _ => dts_nil) (fun _ _ _ _ _ => de_cmp (op_inAll) (inP_ok hK) (pv 1) (T.c_LETTERS rfl rfl) (by with_unfolding_all rfl))))))))
/-! ### is_listed -/
abbrev n_is_listed : List Str := ["value"]
def b_is_listed : MS :=
    mRet (mO1 (isiP anc [0] [.list, .tuple]) (.pl 0))
def c_is_listed : FN := mkFn 1 false b_is_listed
theorem sc_is_listed : FnScope n_is_listed ["value"] (defScope s_is_listed) := ⟨rfl, rfl, rfl, by decide +kernel, rfl, by decide +kernel, by decide +kernel⟩
theorem ok_is_listed {P : Program} {w : World} {K : PySem.W.Frag} {mg : Str → Option Value} {base : Heap} {CA : Nat → Addr} {CM fI : Addr} {tt : List (Addr × Str)} (T : Txt P K mg CA CM fI tt)  {f : Addr} {fd : FuncData} (F : Fun K "is_listed" "is_listed" s_is_listed f fd) :
    FnOk P w K mg base (L2.CX P w) 2 f fd ["value"] (SpF (ctx K CA tt) false 1 c_is_listed) :=
  have ND := sc_is_listed.nd
  have hK : (ctx K CA tt).K = K := rfl
  fn_ok F sc_is_listed (by decide) (fun _ => by decide) fun cdv A outer s H E hr tk =>
    dss_one (ds_ret (de_isi2 hK T.ins T.k_list T.k_tuple rfl T.n_isinstance (pv 0) (pe_ty rfl T.n_list (by decide +kernel)) (pe_ty rfl T.n_tuple (by decide +kernel))))
/-! ### ascends -/
abbrev n_ascends : List Str := ["some", "one", "other"]
def b_ascends : MS :=
    mRet (mO1 allP (.ex (mLc (.tp [.nm 1, .nm 2]) [1, 2] (mZip (mV 0) (mSl (.pl 0) (some (mC (.int 1))) none)) (mYes) (mO2 ltP (.pl 1) (.pl 2)))))
def c_ascends : FN := mkFn 3 false b_ascends
theorem sc_ascends : FnScope n_ascends ["some"] (defScope s_ascends) := ⟨rfl, rfl, rfl, by decide +kernel, rfl, by decide +kernel, by decide +kernel⟩
theorem ok_ascends {P : Program} {w : World} {K : PySem.W.Frag} {mg : Str → Option Value} {base : Heap} {CA : Nat → Addr} {CM fI : Addr} {tt : List (Addr × Str)} (T : Txt P K mg CA CM fI tt)  {f : Addr} {fd : FuncData} (F : Fun K "ascends" "ascends" s_ascends f fd) :
    FnOk P w K mg base (L2.CX P w) 2 f fd ["some"] (SpF (ctx K CA tt) false 1 c_ascends) :=
  have ND := sc_ascends.nd
  have hK : (ctx K CA tt).K = K := rfl
  fn_ok F sc_ascends (by decide) (fun _ => by decide) fun cdv A outer s H E hr tk =>
    dss_one (ds_ret (de_b1 (cr_all rfl) (allP_ok) rfl T.n_all (by decide +kernel) (de_lc (own := [("one", 1), ("other", 2)]) rfl ND (di_zip hK rfl T.n_zip (da_cons (de_v (pv 0)) (da_cons (de_slice hK (pv 0) (dpo_some (de_int)) dpo_none) (da_nil)))) (by rfl) (fun _ _ _ _ _ => dg_tp hK rfl (dgs_cons (dg_nm ND rfl (.inl rfl)) (dgs_cons (dg_nm ND rfl (.inl rfl)) (dgs_nil)))) (fun _ _ _ _ _ => dts_nil) (fun _ _ _ _ _ => de_cmp (op_ltAll) (ltP_ok) (pv 1) (pv 2) (nomark _)))))
/-! ### are_unlike -/
abbrev n_are_unlike : List Str := ["some"]
def b_are_unlike : MS :=
    mRet (mCall c_ascends [mO1 sortQ (.pl 0)] [])
def c_are_unlike : FN := mkFn 1 false b_are_unlike
theorem sc_are_unlike : FnScope n_are_unlike ["some"] (defScope s_are_unlike) := ⟨rfl, rfl, rfl, by decide +kernel, rfl, by decide +kernel, by decide +kernel⟩
theorem ok_are_unlike {P : Program} {w : World} {K : PySem.W.Frag} {mg : Str → Option Value} {base : Heap} {CA : Nat → Addr} {CM fI : Addr} {tt : List (Addr × Str)} (T : Txt P K mg CA CM fI tt) (Cascends : Cal P w K mg base (ctx K CA tt) "ascends" false 1 2 c_ascends []) {f : Addr} {fd : FuncData} (F : Fun K "are_unlike" "are_unlike" s_are_unlike f fd) :
    FnOk P w K mg base (L2.CX P w) 3 f fd ["some"] (SpF (ctx K CA tt) false 1 c_are_unlike) :=
  have ND := sc_are_unlike.nd
  have hK : (ctx K CA tt).K = K := rfl
  fn_ok F sc_are_unlike (by decide) (fun _ => by decide) fun cdv A outer s H E hr tk =>
    dss_one (ds_ret (de_cal Cascends hr (by decide) rfl tk (da_cons (de_b1 cr_sortQ (sortQ_ok hK) rfl T.n_sorted (by decide +kernel) (pv 0)) (da_nil)) rfl))
/-! ### are_names -/
abbrev n_are_names : List Str := ["value", "least", "most", "one"]
def b_are_names : MS :=
    mSeq (mIfS (mOrT (mNotT (mT (mCall c_is_listed [mV 0] []))) (mNotT (mT (mCh (cmpP fun i j => decide (i ≤ j)) (cmpP fun i j => decide (i ≤ j)) (mV 1) (mO1 lenP (.pl 0)) (mV 2))))) (mRet (mC (.bl false))) (mNext))
    (mRet (mAndV (mO1 allP (.ex (mLc (.nm 3) [3] (itSq (mV 0)) (mYes) (mCall c_is_name [mV 3] [])))) (mCall c_are_unlike [mV 0] [])))
def c_are_names : FN := mkFn 4 false b_are_names
theorem sc_are_names : FnScope n_are_names ["value", "least", "most"] (defScope s_are_names) := ⟨rfl, rfl, rfl, by decide +kernel, rfl, by decide +kernel, by decide +kernel⟩
theorem ok_are_names {P : Program} {w : World} {K : PySem.W.Frag} {mg : Str → Option Value} {base : Heap} {CA : Nat → Addr} {CM fI : Addr} {tt : List (Addr × Str)} (T : Txt P K mg CA CM fI tt) (Cis_listed : Cal P w K mg base (ctx K CA tt) "is_listed" false 1 2 c_is_listed []) (Cis_name : Cal P w K mg base (ctx K CA tt) "is_name" false 1 2 c_is_name []) (Care_unlike : Cal P w K mg base (ctx K CA tt) "are_unlike" false 1 3 c_are_unlike []) {f : Addr} {fd : FuncData} (F : Fun K "are_names" "are_names" s_are_names f fd) :
    FnOk P w K mg base (L2.CX P w) 4 f fd ["value", "least", "most"] (SpF (ctx K CA tt) false 3 c_are_names) :=
  have ND := sc_are_names.nd
  have hK : (ctx K CA tt).K = K := rfl
  fn_ok F sc_are_names (by decide) (fun _ => by decide) fun cdv A outer s H E hr tk =>
    dss_cons (ds_if (dt_w (dw_or (dt_not (dt_val (de_cal Cis_listed hr (by decide) rfl tk (da_cons (de_v (pv 0)) (da_nil)) rfl))) (dw_or1 (dt_not (dt_chain (op_le) (op_le) (cmpP_ok) (cmpP_ok) (de_v (pv 1)) (de_b1 call_len (lenP_ok hK) rfl T.n_len (by decide +kernel) (pv 0)) (de_v (pv 2))))))) (dss_one (ds_ret (de_bl))) (dss_nil))
    (dss_one (ds_ret (de_and (de_b1 (cr_all rfl) (allP_ok) rfl T.n_all (by decide +kernel) (de_lc (own := [("one", 3)]) rfl ND (di_sqQ hK (de_v (pv 0))) (by rfl) (fun _ _ _ _ _ => dg_nm ND rfl (.inl rfl)) (fun _ _ _ _ _ => dts_nil) (fun _ _ _ _ _ => de_cal Cis_name hr (by decide) rfl LamX.takes0 (da_cons (de_v (pv 3)) (da_nil)) rfl))) (de_one (de_cal Care_unlike hr (by decide) rfl tk (da_cons (de_v (pv 0)) (da_nil)) rfl)))))
/-! ### Table.__init__ -/
abbrev n_Table___init__ : List Str := ["self", "name", "columns", "unique", "kind", "key"]
def b_Table___init__ : MS :=
    mSeq (mIfS (mNotT (mT (mCall c_is_name [mV 1] []))) (mRaise 1 (mC (.str "name"))) (mNext))
    (mSeq (mIfS (mNotT (mT (mCall c_are_names [mV 2, mC (.int 1), mC (.int 5)] []))) (mRaise 1 (mC (.str "columns"))) (mNext))
    (mSeq (mIfS (mOrT (mNotT (mT (mCall c_are_names [mV 3, mC (.int 0), mC (.int 5)] []))) (mNotT (mT (mO1 allP (.ex (mLc (.nm 5) [5] (itSq (mV 3)) (mYes) (mO2 (inP false) (.pl 5) (.pl 2)))))))) (mRaise 1 (mC (.str "unique"))) (mNext))
    (mSeq (mIfS (mOrT (mNotT (mT (mO1 (isiP anc [0] [.str]) (.pl 4)))) (mT (mO2 (inP true) (.pl 4) (.ex (mC (.tup [.str "heap", .str "set"])))))) (mRaise 1 (mC (.str "kind"))) (mNext))
    (mSeq (mFld 0 ix_name (mV 1))
    (mSeq (mFld 0 ix_columns (mO1 tupleP (.pl 2)))
    (mSeq (mFld 0 ix_unique (mO1 tupleP (.ex (mO1 sortQ (.pl 3)))))
    (mFld 0 ix_kind (mV 4))))))))
def c_Table___init__ : FN := mkFn 6 true b_Table___init__
theorem sc_Table___init__ : FnScope n_Table___init__ ["self", "name", "columns", "unique", "kind"] (defScope s_Table___init__) := ⟨rfl, rfl, rfl, by decide +kernel, rfl, by decide +kernel, by decide +kernel⟩
theorem ok_Table___init__ {P : Program} {w : World} {K : PySem.W.Frag} {mg : Str → Option Value} {base : Heap} {CA : Nat → Addr} {CM fI : Addr} {tt : List (Addr × Str)} (T : Txt P K mg CA CM fI tt) (Cis_name : Cal P w K mg base (ctx K CA tt) "is_name" false 1 2 c_is_name []) (Care_names : Cal P w K mg base (ctx K CA tt) "are_names" false 3 4 c_are_names []) {f : Addr} {fd : FuncData} {dvs : List V} (F : FunD K "__init__" "Table.__init__" (defArgs s_Table___init__) (defBody s_Table___init__) (defScope s_Table___init__) dvs [] f fd) :
    FnOk P w K mg base (L2.CX P w) 5 f fd ["self", "name", "columns", "unique", "kind"] (SpF (ctx K CA tt) true 5 c_Table___init__) :=
  have ND := sc_Table___init__.nd
  have hK : (ctx K CA tt).K = K := rfl
  fn_okD F sc_Table___init__ (by decide) (fun _ => by decide) fun cdv A outer s H E hr tk =>
    dss_cons (ds_if (dt_not (dt_val (de_cal Cis_name hr (by decide) rfl tk (da_cons (de_v (pv 1)) (da_nil)) rfl))) (dss_one (ds_raise rfl T.x_BadTable rfl hr tk (de_str) T.g_BadTable rfl)) (dss_nil))
    (dss_cons (ds_if (dt_not (dt_val (de_cal Care_names hr (by decide) rfl tk (da_cons (de_v (pv 2)) (da_cons (de_int) (da_cons (T.c_MOST_COLUMNS rfl rfl) (da_nil)))) rfl))) (dss_one (ds_raise rfl T.x_BadTable rfl hr tk (de_str) T.g_BadTable rfl)) (dss_nil))
    (dss_cons (ds_if (dt_w (dw_or (dt_not (dt_val (de_cal Care_names hr (by decide) rfl tk (da_cons (de_v (pv 3)) (da_cons (de_int) (da_cons (T.c_MOST_COLUMNS rfl rfl) (da_nil)))) rfl))) (dw_or1 (dt_not (dt_val (de_b1 (cr_all rfl) (allP_ok) rfl T.n_all (by decide +kernel) (de_lc (own := [("key", 5)]) rfl ND (di_sqQ hK (de_v (pv 3))) (by rfl) (fun _ _ _ _ _ => dg_nm ND rfl (.inl rfl)) (fun _ _ _ _ _ => dts_nil) (fun _ _ _ _ _ => de_cmp (op_inAll) (inP_ok hK) (pv 5) (pv 2) (by with_unfolding_all rfl))))))))) (dss_one (ds_raise rfl T.x_BadTable rfl hr tk (de_str) T.g_BadTable rfl)) (dss_nil))
    (dss_cons (ds_if (dt_w (dw_or (dt_not (dt_val (de_isi hK T.ins T.k_str rfl T.n_isinstance (pv 4) (pe_ty rfl T.n_str (by decide +kernel))))) (dw_or1 (dt_cmp (op_notInAll) (inP_ok hK) (pv 4) (T.c_KINDS rfl rfl) (by with_unfolding_all rfl))))) (dss_one (ds_raise rfl T.x_BadTable rfl hr tk (de_str) T.g_BadTable rfl)) (dss_nil))
    (dss_cons (ds_fld T.f_name T.fl (pv 0) (de_v (pv 1)))
    (dss_cons (ds_fld T.f_columns T.fl (pv 0) (de_t1 call_tuple_of (tupleP_ok hK) rfl T.n_tuple (by decide +kernel) (pv 2)))
    (dss_cons (ds_fld T.f_unique T.fl (pv 0) (de_t1 call_tuple_of (tupleP_ok hK) rfl T.n_tuple (by decide +kernel) (de_b1 cr_sortQ (sortQ_ok hK) rfl T.n_sorted (by decide +kernel) (pv 3))))
    (dss_one (ds_fld T.f_kind T.fl (pv 0) (de_v (pv 4))))))))))
/-! ### Table.__eq__ -/
abbrev n_Table___eq__ : List Str := ["self", "other", "mine"]
def b_Table___eq__ : MS :=
    mSeq (mIfS (mNotT (mT (mO1 (isiP anc [0] [.own 0]) (.pl 1)))) (mRet (mC (.bl false))) (mNext))
    (mSeq (mSet 2 (mTup [mO1 (attrP ix_name) (.pl 0), mO1 (attrP ix_columns) (.pl 0), mO1 (attrP ix_unique) (.pl 0), mO1 (attrP ix_kind) (.pl 0)]))
    (mRet (mO2 eqP (.pl 2) (.ex (mTup [mO1 (attrP ix_name) (.pl 1), mO1 (attrP ix_columns) (.pl 1), mO1 (attrP ix_unique) (.pl 1), mO1 (attrP ix_kind) (.pl 1)])))))
def c_Table___eq__ : FN := mkFn 3 false b_Table___eq__
theorem sc_Table___eq__ : FnScope n_Table___eq__ ["self", "other"] (defScope s_Table___eq__) := ⟨rfl, rfl, rfl, by decide +kernel, rfl, by decide +kernel, by decide +kernel⟩
theorem ok_Table___eq__ {P : Program} {w : World} {K : PySem.W.Frag} {mg : Str → Option Value} {base : Heap} {CA : Nat → Addr} {CM fI : Addr} {tt : List (Addr × Str)} (T : Txt P K mg CA CM fI tt)  {f : Addr} {fd : FuncData} (F : Fun K "__eq__" "Table.__eq__" s_Table___eq__ f fd) :
    FnOk P w K mg base (L2.CX P w) 2 f fd ["self", "other"] (SpF (ctx K CA tt) false 2 c_Table___eq__) :=
  have ND := sc_Table___eq__.nd
  have hK : (ctx K CA tt).K = K := rfl
  fn_ok F sc_Table___eq__ (by decide) (fun _ => by decide) fun cdv A outer s H E hr tk =>
    dss_cons (ds_if (dt_not (dt_val (de_isi hK T.ins T.k_Table rfl T.n_isinstance (pv 1) (pe_cls rfl T.g_Table)))) (dss_one (ds_ret (de_bl))) (dss_nil))
    (dss_cons (ds_set ND rfl (.inl rfl) (de_tup (da_cons (de_attr T.f_name (pv 0)) (da_cons (de_attr T.f_columns (pv 0)) (da_cons (de_attr T.f_unique (pv 0)) (da_cons (de_attr T.f_kind (pv 0)) (da_nil)))))))
    (dss_one (ds_ret (de_cmp (op_eqD (un64 hr)) (eqP_ok hK) (pv 2) (de_tup (da_cons (de_attr T.f_name (pv 1)) (da_cons (de_attr T.f_columns (pv 1)) (da_cons (de_attr T.f_unique (pv 1)) (da_cons (de_attr T.f_kind (pv 1)) (da_nil)))))) (nomark _)))))
/-! ### _law_pen -/
abbrev n__law_pen : List Str := ["script", "cell"]
def b__law_pen : MS :=
    mRet (mLst [mLc (.nm 1) [1] (itSq (mSl (.pl 0) none (some (mC (.int 63))))) (mYes) (mO1 int1P (.pl 1)), mC (.int 0), mC (.int 0)])
def c__law_pen : FN := mkFn 2 false b__law_pen
theorem sc__law_pen : FnScope n__law_pen ["script"] (defScope s__law_pen) := ⟨rfl, rfl, rfl, by decide +kernel, rfl, by decide +kernel, by decide +kernel⟩
theorem ok__law_pen {P : Program} {w : World} {K : PySem.W.Frag} {mg : Str → Option Value} {base : Heap} {CA : Nat → Addr} {CM fI : Addr} {tt : List (Addr × Str)} (T : Txt P K mg CA CM fI tt)  {f : Addr} {fd : FuncData} (F : Fun K "_law_pen" "_law_pen" s__law_pen f fd) :
    FnOk P w K mg base (L2.CX P w) 2 f fd ["script"] (SpF (ctx K CA tt) false 1 c__law_pen) :=
  have ND := sc__law_pen.nd
  have hK : (ctx K CA tt).K = K := rfl
  fn_ok F sc__law_pen (by decide) (fun _ => by decide) fun cdv A outer s H E hr tk =>
    dss_one (ds_ret (de_lst (da_cons (de_lc (own := [("cell", 1)]) rfl ND (di_sqQ hK (de_slice hK (pv 0) dpo_none (dpo_some (de_int)))) (by rfl) (fun _ _ _ _ _ => dg_nm ND rfl (.inl rfl)) (fun _ _ _ _ _ => dts_nil) (fun _ _ _ _ _ => de_t1 call_int1 (int1P_ok) rfl T.n_int (by decide +kernel) (pv 1))) (da_cons (de_int) (da_cons (de_int) (da_nil))))))
/-! ### _law_draw -/
abbrev n__law_draw : List Str := ["pen", "many", "rest", "turn", "cell", "mixed"]
def b__law_draw : MS :=
    mSeq (mIfS (mT (mO2 (cmpP fun i j => decide (j < i)) (.ex (mO2 ixP (.pl 0) (.ex (mC (.int 2))))) (.ex (mC (.int 0))))) (mSeq (mSet 2 (mO1 int1P (.ex (mO2 ixP (.pl 0) (.ex (mC (.int 2)))))))
    (mSeq (mSub 0 (mC (.int 2)) (mO2 divP (.pl 2) (.pl 1)))
    (mRet (mO2 modP (.ex (mO1 int1P (.pl 2))) (.pl 1))))) (mNext))
    (mSeq (mSet 3 (mO2 ixP (.pl 0) (.ex (mC (.int 1)))))
    (mSeq (mSub 0 (mC (.int 1)) (mO2 addP (.pl 3) (.ex (mC (.int 1)))))
    (mSeq (mSet 4 (mO2 addP (.ex (mO2 mulP (.ex (mC (.int 93241))) (.pl 3))) (.ex (mC (.int 11117)))))
    (mSeq (mIfS (mT (mO2 neP (.ex (mO2 ixP (.pl 0) (.ex (mC (.int 0))))) (.ex (mLst [])))) (mSet 4 (mO2 ixP (.ex (mO2 ixP (.pl 0) (.ex (mC (.int 0))))) (.ex (mO2 modP (.ex (mO1 int1P (.pl 3))) (.ex (mO1 lenP (.ex (mO2 ixP (.pl 0) (.ex (mC (.int 0))))))))))) (mNext))
    (mSeq (mIfS (mAndT (mT (mO2 ltP (.pl 3) (.ex (mO1 lenP (.ex (mO2 ixP (.pl 0) (.ex (mC (.int 0))))))))) (mT (mO2 (cmpP fun i j => decide (j ≤ i)) (.ex (mO1 absP (.pl 4))) (.ex (mO2 powP (.ex (mC (.int 10))) (.ex (mC (.int 18)))))))) (mSeq (mSet 2 (mO2 addP (.ex (mO2 mulP (.ex (mC (.int 2))) (.ex (mO2 subP (.ex (mO1 absP (.pl 4))) (.ex (mO2 powP (.ex (mC (.int 10))) (.ex (mC (.int 18))))))))) (.ex (mO1 int1P (.ex (mO2 ltP (.pl 4) (.ex (mC (.int 0)))))))))
    (mSeq (mSub 0 (mC (.int 2)) (mO2 divP (.ex (mO1 int1P (.pl 2))) (.pl 1)))
    (mRet (mO2 modP (.ex (mO1 int1P (.pl 2))) (.pl 1))))) (mNext))
    (mSeq (mSet 5 (mO2 modP (.ex (mO1 int1P (.ex (mO2 powP (.ex (mO2 addP (.ex (mO2 addP (.ex (mO2 modP (.ex (mO1 int1P (.pl 4))) (.ex (mC (.int 2147483549))))) (.ex (mO2 mulP (.ex (mC (.int 93241))) (.pl 3))))) (.ex (mC (.int 11117))))) (.ex (mC (.int 5))))))) (.ex (mC (.int 2147483629)))))
    (mSeq (mSet 5 (mO2 modP (.ex (mO1 int1P (.ex (mO2 powP (.ex (mO2 addP (.ex (mO2 addP (.ex (mO2 mulP (.pl 5) (.ex (mO2 addP (.ex (mO2 mulP (.ex (mC (.int 2))) (.pl 3))) (.ex (mC (.int 7019))))))) (.ex (mO2 mulP (.ex (mO2 mulP (.ex (mC (.int 36013))) (.pl 3))) (.pl 3))))) (.ex (mC (.int 93241))))) (.ex (mC (.int 3))))))) (.ex (mC (.int 2147483587)))))
    (mRet (mO2 modP (.ex (mO1 int1P (.ex (mO2 divP (.pl 5) (.ex (mC (.int 64))))))) (.pl 1))))))))))
def c__law_draw : FN := mkFn 6 true b__law_draw
theorem sc__law_draw : FnScope n__law_draw ["pen", "many"] (defScope s__law_draw) := ⟨rfl, rfl, rfl, by decide +kernel, rfl, by decide +kernel, by decide +kernel⟩
theorem ok__law_draw {P : Program} {w : World} {K : PySem.W.Frag} {mg : Str → Option Value} {base : Heap} {CA : Nat → Addr} {CM fI : Addr} {tt : List (Addr × Str)} (T : Txt P K mg CA CM fI tt)  {f : Addr} {fd : FuncData} (F : Fun K "_law_draw" "_law_draw" s__law_draw f fd) :
    FnOk P w K mg base (L2.CX P w) 2 f fd ["pen", "many"] (SpF (ctx K CA tt) true 2 c__law_draw) :=
  have ND := sc__law_draw.nd
  have hK : (ctx K CA tt).K = K := rfl
  fn_ok F sc__law_draw (by decide) (fun _ => by decide) fun cdv A outer s H E hr tk =>
    dss_cons (ds_if (dt_cmp (op_gt) (cmpP_ok) (de_ix ix_seq (ixP_ok hK) (pv 0) (de_int)) (de_int) (nomark _)) (dss_cons (ds_set ND rfl (.inl rfl) (de_t1 call_int1 (int1P_ok) rfl T.n_int (by decide +kernel) (de_ix ix_seq (ixP_ok hK) (pv 0) (de_int))))
    (dss_cons (ds_sub (un1 hr) (pv 0) (de_int) (de_op op_fdivN (divP_ok) (pv 2) (pv 1)))
    (dss_one (ds_ret (de_op op_modN (modP_ok) (de_t1 call_int1 (int1P_ok) rfl T.n_int (by decide +kernel) (pv 2)) (pv 1)))))) (dss_nil))
    (dss_cons (ds_set ND rfl (.inl rfl) (de_ix ix_seq (ixP_ok hK) (pv 0) (de_int)))
    (dss_cons (ds_sub (un1 hr) (pv 0) (de_int) (de_op op_addAll (addP_ok hK) (pv 3) (de_int)))
    (dss_cons (ds_set ND rfl (.inl rfl) (de_op op_addAll (addP_ok hK) (de_op op_mul (mulP_ok) (de_int) (pv 3)) (de_int)))
    (dss_cons (ds_if (dt_cmp (op_neD (un64 hr)) (neP_ok hK) (de_ix ix_seq (ixP_ok hK) (pv 0) (de_int)) (de_lst (da_nil)) (nomark _)) (dss_one (ds_set ND rfl (.inl rfl) (de_ix ix_seq (ixP_ok hK) (de_ix ix_seq (ixP_ok hK) (pv 0) (de_int)) (de_op op_modN (modP_ok) (de_t1 call_int1 (int1P_ok) rfl T.n_int (by decide +kernel) (pv 3)) (de_b1 call_len (lenP_ok hK) rfl T.n_len (by decide +kernel) (de_ix ix_seq (ixP_ok hK) (pv 0) (de_int))))))) (dss_nil))
    (dss_cons (ds_if (dt_w (dw_and (dt_cmp (op_ltAll) (ltP_ok) (pv 3) (de_b1 call_len (lenP_ok hK) rfl T.n_len (by decide +kernel) (de_ix ix_seq (ixP_ok hK) (pv 0) (de_int))) (nomark _)) (dw_and1 (dt_cmp (op_ge) (cmpP_ok) (de_b1 call_abs (absP_ok) rfl T.n_abs (by decide +kernel) (pv 4)) (de_op op_pow (powP_ok) (de_int) (de_int)) (nomark _))))) (dss_cons (ds_set ND rfl (.inl rfl) (de_op op_addAll (addP_ok hK) (de_op op_mul (mulP_ok) (de_int) (de_op op_sub (intP0_ok) (de_b1 call_abs (absP_ok) rfl T.n_abs (by decide +kernel) (pv 4)) (de_op op_pow (powP_ok) (de_int) (de_int)))) (de_t1 call_int1 (int1P_ok) rfl T.n_int (by decide +kernel) (de_cmp (op_ltAll) (ltP_ok) (pv 4) (de_int) (nomark _)))))
    (dss_cons (ds_sub (un1 hr) (pv 0) (de_int) (de_op op_fdivN (divP_ok) (de_t1 call_int1 (int1P_ok) rfl T.n_int (by decide +kernel) (pv 2)) (pv 1)))
    (dss_one (ds_ret (de_op op_modN (modP_ok) (de_t1 call_int1 (int1P_ok) rfl T.n_int (by decide +kernel) (pv 2)) (pv 1)))))) (dss_nil))
    (dss_cons (ds_set ND rfl (.inl rfl) (de_op op_modN (modP_ok) (de_t1 call_int1 (int1P_ok) rfl T.n_int (by decide +kernel) (de_op op_pow (powP_ok) (de_op op_addAll (addP_ok hK) (de_op op_addAll (addP_ok hK) (de_op op_modN (modP_ok) (de_t1 call_int1 (int1P_ok) rfl T.n_int (by decide +kernel) (pv 4)) (de_int)) (de_op op_mul (mulP_ok) (de_int) (pv 3))) (de_int)) (de_int))) (de_int)))
    (dss_cons (ds_set ND rfl (.inl rfl) (de_op op_modN (modP_ok) (de_t1 call_int1 (int1P_ok) rfl T.n_int (by decide +kernel) (de_op op_pow (powP_ok) (de_op op_addAll (addP_ok hK) (de_op op_addAll (addP_ok hK) (de_op op_mul (mulP_ok) (pv 5) (de_op op_addAll (addP_ok hK) (de_op op_mul (mulP_ok) (de_int) (pv 3)) (de_int))) (de_op op_mul (mulP_ok) (de_op op_mul (mulP_ok) (de_int) (pv 3)) (pv 3))) (de_int)) (de_int))) (de_int)))
    (dss_one (ds_ret (de_op op_modN (modP_ok) (de_t1 call_int1 (int1P_ok) rfl T.n_int (by decide +kernel) (de_op op_fdivN (divP_ok) (pv 5) (de_int))) (pv 1)))))))))))
/-! ### _law_pick -/
abbrev n__law_pick : List Str := ["pen", "some"]
def b__law_pick : MS :=
    mRet (mO2 ixP (.pl 1) (.ex (mCallIO c__law_draw 0 [mO1 lenP (.pl 1)] [])))
def c__law_pick : FN := mkFn 2 true b__law_pick
theorem sc__law_pick : FnScope n__law_pick ["pen", "some"] (defScope s__law_pick) := ⟨rfl, rfl, rfl, by decide +kernel, rfl, by decide +kernel, by decide +kernel⟩
theorem ok__law_pick {P : Program} {w : World} {K : PySem.W.Frag} {mg : Str → Option Value} {base : Heap} {CA : Nat → Addr} {CM fI : Addr} {tt : List (Addr × Str)} (T : Txt P K mg CA CM fI tt) (C_law_draw : Cal P w K mg base (ctx K CA tt) "_law_draw" true 2 2 c__law_draw []) {f : Addr} {fd : FuncData} (F : Fun K "_law_pick" "_law_pick" s__law_pick f fd) :
    FnOk P w K mg base (L2.CX P w) 3 f fd ["pen", "some"] (SpF (ctx K CA tt) true 2 c__law_pick) :=
  have ND := sc__law_pick.nd
  have hK : (ctx K CA tt).K = K := rfl
  fn_ok F sc__law_pick (by decide) (fun _ => by decide) fun cdv A outer s H E hr tk =>
    dss_one (ds_ret (de_ix ix_seq (ixP_ok hK) (pv 1) (de_calIO C_law_draw hr (by decide) rfl tk (pv 0) (da_cons (de_b1 call_len (lenP_ok hK) rfl T.n_len (by decide +kernel) (pv 1)) (da_nil)) rfl)))
/-! ### _law_mixed -/
abbrev n__law_mixed : List Str := ["pen", "some", "left", "found"]
def b__law_mixed : MS :=
    mSeq (mPar 2 3 (mO1 listQ (.pl 1)) (mLst []))
    (mSeq (whE (mT (mO2 neP (.pl 2) (.ex (mLst [])))) (mExpr (mMt 3 appendP [mMt 2 popAtP [mCallIO c__law_draw 0 [mO1 lenP (.pl 2)] []]])) 64)
    (mRet (mMv 3)))
def c__law_mixed : FN := mkFn 4 true b__law_mixed
theorem sc__law_mixed : FnScope n__law_mixed ["pen", "some"] (defScope s__law_mixed) := ⟨rfl, rfl, rfl, by decide +kernel, rfl, by decide +kernel, by decide +kernel⟩
theorem ok__law_mixed {P : Program} {w : World} {K : PySem.W.Frag} {mg : Str → Option Value} {base : Heap} {CA : Nat → Addr} {CM fI : Addr} {tt : List (Addr × Str)} (T : Txt P K mg CA CM fI tt) (C_law_draw : Cal P w K mg base (ctx K CA tt) "_law_draw" true 2 2 c__law_draw []) {f : Addr} {fd : FuncData} (F : Fun K "_law_mixed" "_law_mixed" s__law_mixed f fd) :
    FnOk P w K mg base (L2.CX P w) 3 f fd ["pen", "some"] (SpF (ctx K CA tt) true 2 c__law_mixed) :=
  have ND := sc__law_mixed.nd
  have hK : (ctx K CA tt).K = K := rfl
  fn_ok F sc__law_mixed (by decide) (fun _ => by decide) fun cdv A outer s H E hr tk =>
    dss_cons (ds_par rfl ND rfl rfl (by decide) rfl rfl (de_t1 call_list_of (listQ_ok hK) rfl T.n_list (by decide +kernel) (pv 1)) (de_lst (da_nil)))
    (dss_cons (ds_while 64 (passes_of rfl) (dt_cmp (op_neD (un64 hr)) (neP_ok hK) (pv 2) (de_lst (da_nil)) (nomark _)) (dss_one (ds_expr (de_mt PySem.F.plainAttrs_list PySem.F.slot_list_append PySem.F.type_list_append mt_append appendP_ok (pv 3) (da_cons (de_mt PySem.F.plainAttrs_list PySem.F.slot_list_pop PySem.F.type_list_pop mt_popAt popAtP_ok (pv 2) (da_cons (de_calIO C_law_draw hr (by decide) rfl tk (pv 0) (da_cons (de_b1 call_len (lenP_ok hK) rfl T.n_len (by decide +kernel) (pv 2)) (da_nil)) rfl) (da_nil))) (da_nil))))))
    (dss_one (ds_ret (de_mv (pv 3)))))
/-! ### _law_name -/
abbrev n__law_name : List Str := ["pen", "most", "at"]
def b__law_name : MS :=
    mRet (mJoin (mC (.str "")) (.ex (mLc (.nm 2) [2] (mRg1 (mO2 addP (.ex (mC (.int 1))) (.ex (mCallIO c__law_draw 0 [mV 1] [])))) (mYes) (mCallIO c__law_pick 0 [mC (.str "abcdefghijklmnopqrstuvwxyz")] []))))
def c__law_name : FN := mkFn 3 true b__law_name
theorem sc__law_name : FnScope n__law_name ["pen", "most"] (defScope s__law_name) := ⟨rfl, rfl, rfl, by decide +kernel, rfl, by decide +kernel, by decide +kernel⟩
theorem ok__law_name {P : Program} {w : World} {K : PySem.W.Frag} {mg : Str → Option Value} {base : Heap} {CA : Nat → Addr} {CM fI : Addr} {tt : List (Addr × Str)} (T : Txt P K mg CA CM fI tt) (C_law_draw : Cal P w K mg base (ctx K CA tt) "_law_draw" true 2 2 c__law_draw []) (C_law_pick : Cal P w K mg base (ctx K CA tt) "_law_pick" true 2 3 c__law_pick []) {f : Addr} {fd : FuncData} (F : Fun K "_law_name" "_law_name" s__law_name f fd) :
    FnOk P w K mg base (L2.CX P w) 4 f fd ["pen", "most"] (SpF (ctx K CA tt) true 2 c__law_name) :=
  have ND := sc__law_name.nd
  have hK : (ctx K CA tt).K = K := rfl
  fn_ok F sc__law_name (by decide) (fun _ => by decide) fun cdv A outer s H E hr tk =>
    dss_one (ds_ret (de_join (de_str) (de_lc (own := [("at", 2)]) rfl ND (di_rg1 rfl T.n_range (de_op op_addAll (addP_ok hK) (de_int) (de_calIO C_law_draw hr (by decide) rfl tk (pv 0) (da_cons (de_v (pv 1)) (da_nil)) rfl))) (by rfl) (fun _ _ _ _ _ => dg_nm ND rfl (.inl rfl)) (fun _ _ _ _ _ => dts_nil) (fun _ _ _ _ _ => de_calIO C_law_pick hr (by decide) rfl LamX.takes0 (pv 0) (da_cons (de_str) (da_nil)) rfl))))
end K01

set_option Elab.async false
set_option linter.all false
set_option maxRecDepth 100000
set_option maxHeartbeats 4000000
/-! K01B: what is heard of a thunk; the law's own body. Printed by k01.py. -/
namespace K01
open PySem PySem.Spec PyProof.Rows L2 DL LamX
abbrev n__law_heard : List Str := ["ask", "caught", "found", "error", "words", "told", "word", "is_so"]
def b__law_heard (ma : ME) : MS :=
    mSeq (mUn (.tp [.nm 1, .nm 2]) (mTup [mC .non, mC .non]))
    (mSeq (mTryC hs_MostError 3 1 (mSet 2 ma))
    (mSeq (mIfS (mT (mO2 isNP (.pl 1) (.ex (mC .non)))) (mRet (mLst [mV 2])) (mNext))
    (mSeq (mSet 4 (mLst [mTup [mC (.str "plan"), mO1 (isxP anc [1] 2) (.pl 1)], mTup [mC (.str "table"), mO1 (isxP anc [1] 1) (.pl 1)], mTup [mC (.str "world"), mO1 (isxP anc [1] 3) (.pl 1)], mTup [mC (.str "weights"), mO1 (isxP anc [1] 4) (.pl 1)]]))
    (mSeq (mSet 4 (mO2 addP (.pl 4) (.ex (mLst [mTup [mC (.str "sizes"), mO1 (isxP anc [1] 5) (.pl 1)], mTup [mC (.str "colours"), mO1 (isxP anc [1] 6) (.pl 1)], mTup [mC (.str "query"), mO1 (isxP anc [1] 7) (.pl 1)], mTup [mC (.str "unlike"), mO1 (isxP anc [1] 8) (.pl 1)]]))))
    (mSeq (mSet 5 (mLc (.tp [.nm 6, .nm 7]) [6, 7] (itSq (mV 4)) (mTr (.pl 7)) (mV 6)))
    (mSeq (mIfS (mT (mO2 neP (.pl 5) (.ex (mLst [])))) (mRet (mTup [mO2 ixP (.pl 5) (.ex (mC (.int 0))), mO1 (attrXP ix_x_part) (.pl 1)])) (mNext))
    (mSeq (mSet 4 (mLst [mTup [mC (.str "name"), mO1 (isxP anc [1] 9) (.pl 1)], mTup [mC (.str "choice"), mO1 (isxP anc [1] 10) (.pl 1)], mTup [mC (.str "number"), mO1 (isxP anc [1] 11) (.pl 1)]]))
    (mSeq (mSet 5 (mLc (.tp [.nm 6, .nm 7]) [6, 7] (itSq (mV 4)) (mTr (.pl 7)) (mV 6)))
    (mSeq (mIfS (mT (mO2 neP (.pl 5) (.ex (mLst [])))) (mRet (mTup [mO2 ixP (.pl 5) (.ex (mC (.int 0))), mO1 (attrXP ix_x_value) (.pl 1)])) (mNext))
    (mSeq (mIfS (mT (mO1 (isxP anc [1] 12) (.pl 1))) (mRet (mTup [mC (.str "step"), mO1 (attrXP ix_x_at) (.pl 1)])) (mNext))
    (mRet (mIf (mT (mO1 (isxP anc [1] 13) (.pl 1))) (mTup [mC (.str "many"), mO1 (attrXP ix_x_what) (.pl 1), mO1 (attrXP ix_x_most) (.pl 1)]) (mTup [mC (.str "other")])))))))))))))
theorem sc__law_heard : FnScope n__law_heard ["ask"] (defScope s__law_heard) := ⟨rfl, rfl, rfl, by decide +kernel, rfl, by decide +kernel, by decide +kernel⟩
theorem dss_heard {P : Program} {w : World} {K : PySem.W.Frag} {mg : Str → Option Value} {base : Heap} {CA : Nat → Addr} {CM fI : Addr} {tt : List (Addr × Str)} (T : Txt P K mg CA CM fI tt) {f : Addr} {cdv : Value} {A : Around} {outer : List Env} {s : Shared} {H : Hp} {E : XK} {ma : ME}
    (hr : Room 7 (A.deeper (envOfC "_law_heard" (defScope s__law_heard) s.heap.objs.size f cdv))) (tk : Takes (cxOf (L2.CX P w) P w K mg base n__law_heard "_law_heard" (defScope s__law_heard) f cdv A outer s H E) (WD E))
    (hask : ∀ (W : WX) (pn : List (Addr × Obj)) (xe : Value → Shared → Prop) (p1 p2 : Pos), Takes ((cxOf (L2.CX P w) P w K mg base n__law_heard "_law_heard" (defScope s__law_heard) f cdv A outer s H E).tr pn xe) W → DE ((cxOf (L2.CX P w) P w K mg base n__law_heard "_law_heard" (defScope s__law_heard) f cdv A outer s H E).tr pn xe) (ctx K CA tt) W (.Call (.Name "ask" p1) [] [] p2) ma) :
    DSs (cxOf (L2.CX P w) P w K mg base n__law_heard "_law_heard" (defScope s__law_heard) f cdv A outer s H E) (ctx K CA tt) (WD E) (defBody s__law_heard) (b__law_heard ma) :=
  have ND := sc__law_heard.nd
  have hK : (ctx K CA tt).K = K := rfl
  dss_cons (ds_un (de_tup (da_cons (de_non) (da_cons (de_non) (da_nil)))) (dg_tp hK rfl (dgs_cons (dg_nm ND rfl (.inl rfl)) (dgs_cons (dg_nm ND rfl (.inl rfl)) (dgs_nil)))))
    (dss_cons (ds_tryC rfl rfl rfl ND rfl rfl (by decide) rfl rfl ⟨rfl, by decide, .inl T.g_MostError⟩ tk T.hs_MostError (fun W pn xe tk _ => dss_one (ds_set ND rfl (.inl rfl) (hask W pn xe _ _ tk))))
    (dss_cons (ds_if (dt_cmp (op_isN) (isNP_ok) (pv 1) (de_non) (nomark _)) (dss_one (ds_ret (de_lst (da_cons (de_v (pv 2)) (da_nil))))) (dss_nil))
    (dss_cons (ds_set ND rfl (.inl rfl) (de_lst (da_cons (de_tup (da_cons (de_str) (da_cons (de_isx (T.xk 2 (by decide)) rfl T.n_isinstance (pv 1) (pe_cls rfl T.g_BadPlan)) (da_nil)))) (da_cons (de_tup (da_cons (de_str) (da_cons (de_isx (T.xk 1 (by decide)) rfl T.n_isinstance (pv 1) (pe_cls rfl T.g_BadTable)) (da_nil)))) (da_cons (de_tup (da_cons (de_str) (da_cons (de_isx (T.xk 3 (by decide)) rfl T.n_isinstance (pv 1) (pe_cls rfl T.g_BadWorld)) (da_nil)))) (da_cons (de_tup (da_cons (de_str) (da_cons (de_isx (T.xk 4 (by decide)) rfl T.n_isinstance (pv 1) (pe_cls rfl T.g_BadWeights)) (da_nil)))) (da_nil)))))))
    (dss_cons (ds_set ND rfl (.inl rfl) (de_op op_addAll (addP_ok hK) (pv 4) (de_lst (da_cons (de_tup (da_cons (de_str) (da_cons (de_isx (T.xk 5 (by decide)) rfl T.n_isinstance (pv 1) (pe_cls rfl T.g_BadSizes)) (da_nil)))) (da_cons (de_tup (da_cons (de_str) (da_cons (de_isx (T.xk 6 (by decide)) rfl T.n_isinstance (pv 1) (pe_cls rfl T.g_BadColours)) (da_nil)))) (da_cons (de_tup (da_cons (de_str) (da_cons (de_isx (T.xk 7 (by decide)) rfl T.n_isinstance (pv 1) (pe_cls rfl T.g_BadQuery)) (da_nil)))) (da_cons (de_tup (da_cons (de_str) (da_cons (de_isx (T.xk 8 (by decide)) rfl T.n_isinstance (pv 1) (pe_cls rfl T.g_Unlike)) (da_nil)))) (da_nil))))))))
    (dss_cons (ds_setLc (own := [("word", 6), ("is_so", 7)]) rfl ND rfl rfl (by rfl) (di_sqQ hK (de_v (pv 4))) (by rfl) (fun _ _ _ _ _ => dg_tp hK rfl (dgs_cons (dg_nm ND rfl (.inl rfl)) (dgs_cons (dg_nm ND rfl (.inl rfl)) (dgs_nil)))) (fun _ _ _ _ _ => dts_one (dt_truth hK (pv 7))) (fun _ _ _ _ _ => de_v (pv 6)))
    (dss_cons (ds_if (dt_cmp (op_neD (un64 hr)) (neP_ok hK) (pv 5) (de_lst (da_nil)) (nomark _)) (dss_one (ds_ret (de_tup (da_cons (de_ix ix_seq (ixP_ok hK) (pv 5) (de_int)) (da_cons (de_attrX T.fx_part (pv 1)) (da_nil)))))) (dss_nil))
    (dss_cons (ds_set ND rfl (.inl rfl) (de_lst (da_cons (de_tup (da_cons (de_str) (da_cons (de_isx (T.xk 9 (by decide)) rfl T.n_isinstance (pv 1) (pe_cls rfl T.g_BadName)) (da_nil)))) (da_cons (de_tup (da_cons (de_str) (da_cons (de_isx (T.xk 10 (by decide)) rfl T.n_isinstance (pv 1) (pe_cls rfl T.g_BadChoice)) (da_nil)))) (da_cons (de_tup (da_cons (de_str) (da_cons (de_isx (T.xk 11 (by decide)) rfl T.n_isinstance (pv 1) (pe_cls rfl T.g_BadNumber)) (da_nil)))) (da_nil))))))
    (dss_cons (ds_setLc (own := [("word", 6), ("is_so", 7)]) rfl ND rfl rfl (by rfl) (di_sqQ hK (de_v (pv 4))) (by rfl) (fun _ _ _ _ _ => dg_tp hK rfl (dgs_cons (dg_nm ND rfl (.inl rfl)) (dgs_cons (dg_nm ND rfl (.inl rfl)) (dgs_nil)))) (fun _ _ _ _ _ => dts_one (dt_truth hK (pv 7))) (fun _ _ _ _ _ => de_v (pv 6)))
    (dss_cons (ds_if (dt_cmp (op_neD (un64 hr)) (neP_ok hK) (pv 5) (de_lst (da_nil)) (nomark _)) (dss_one (ds_ret (de_tup (da_cons (de_ix ix_seq (ixP_ok hK) (pv 5) (de_int)) (da_cons (de_attrX T.fx_value (pv 1)) (da_nil)))))) (dss_nil))
    (dss_cons (ds_if (dt_val (de_isx (T.xk 12 (by decide)) rfl T.n_isinstance (pv 1) (pe_cls rfl T.g_BadStep))) (dss_one (ds_ret (de_tup (da_cons (de_str) (da_cons (de_attrX T.fx_at (pv 1)) (da_nil)))))) (dss_nil))
    (dss_one (ds_ret (de_if (dt_val (de_isx (T.xk 13 (by decide)) rfl T.n_isinstance (pv 1) (pe_cls rfl T.g_TooMany))) (de_tup (da_cons (de_str) (da_cons (de_attrX T.fx_what (pv 1)) (da_cons (de_attrX T.fx_most (pv 1)) (da_nil))))) (de_tup (da_cons (de_str) (da_nil))))))))))))))))
/-- what is heard -/
def hv__law_heard : RC → RC
  | .ok d _ _ => .ok (.lst [d]) true none
  | .exc c fs _ => match c with
    | 1 => (match fs with
      | p :: _ => .ok (.tup [.str "table", p]) false none
      | [] => .bad)
    | _ => .bad
  | .bad => .bad
theorem mAsk_at {f : Addr} {H1 : Hp} {S1 : Sset} {r : RC} {env : EV} (h : env[0]? = some (some (.thk f H1 S1, .s))) : mAsk f H1 S1 r env = match r with
    | .ok d _ _ => .ok d false env
    | .exc c fs _ => .exc c fs env
    | .bad => .bad := by
  unfold mAsk
  rw [if_pos h]
  try (cases r <;> rfl)

theorem unAt (x : D) : mUn (.tp [.nm 1, .nm 2]) (mTup [mC .non, mC .non]) (startE n__law_heard.length false [x]) = .nx [some (x, .s), some (.non, .s), some (.non, .s), none, none, none, none, none] := by
  rfl
def E1 (x : D) : EV := [some (x, .s), some (.non, .s), some (.non, .s), none, none, none, none, none]
theorem hA {ma : ME} {x d : D} (h : ma (E1 x) = .ok d false (E1 x)) : mkFn n__law_heard.length false (b__law_heard ma) [x] = .ok (.lst [d]) true none := by
  unfold mkFn b__law_heard
  unfold mSeq
  rw [unAt]
  simp only []
  have h2 : mTryC hs_MostError 3 1 (mSet 2 ma) [some (x, .s), some (.non, .s), some (.non, .s), none, none, none, none, none] = .nx [some (x, .s), some (.non, .s), some (d, .s), none, none, none, none, none] := by
    unfold mTryC mSet bindS; show _ = _; rw [show ma [some (x, .s), some (.non, .s), some (.non, .s), none, none, none, none, none] = _ from h]; rfl
  rw [h2]
  rfl
theorem hC {ma : ME} {x : D} {c : Nat} {fs : List D} (hc : hs_MostError c = none) (h : ma (E1 x) = .exc c fs (E1 x)) : mkFn n__law_heard.length false (b__law_heard ma) [x] = .bad := by
  unfold mkFn b__law_heard
  unfold mSeq
  rw [unAt]
  simp only []
  have h2 : mTryC hs_MostError 3 1 (mSet 2 ma) [some (x, .s), some (.non, .s), some (.non, .s), none, none, none, none, none] = .bad := by
    unfold mTryC mSet bindS; rw [show ma [some (x, .s), some (.non, .s), some (.non, .s), none, none, none, none, none] = _ from h]; simp only [hc]
  rw [h2]
theorem hD {ma : ME} {x : D} (h : ma (E1 x) = .bad) : mkFn n__law_heard.length false (b__law_heard ma) [x] = .bad := by
  unfold mkFn b__law_heard
  unfold mSeq
  rw [unAt]
  simp only []
  have h2 : mTryC hs_MostError 3 1 (mSet 2 ma) [some (x, .s), some (.non, .s), some (.non, .s), none, none, none, none, none] = .bad := by
    unfold mTryC mSet bindS; rw [show ma [some (x, .s), some (.non, .s), some (.non, .s), none, none, none, none, none] = _ from h]
  rw [h2]
abbrev lcW := lcE (.tp [.nm 6, .nm 7]) [6, 7] (mTr (.pl 7)) (mV 6)
theorem lcW1 (w : Str) (b : Bool) (r acc : List D) (a0 a1 a2 a3 a4 a5 : Option (D × Tag)) (z6 z7 : Option (D × Tag)) (h6 : freeE [z6] 0 = true) (h7 : freeE [z7] 0 = true) :
    lcW (.tup [.str w, .bl b] :: r) acc [a0, a1, a2, a3, a4, a5, z6, z7] = lcW r (bif b then acc ++ [.str w] else acc) [a0, a1, a2, a3, a4, a5, some (.str w, .s), some (.bl b, .s)] := by
  cases b <;> rfl
def L4 : List D := [.tup [.str "plan", .bl false], .tup [.str "table", .bl true], .tup [.str "world", .bl false], .tup [.str "weights", .bl false]]
def L8 : List D := [.tup [.str "plan", .bl false], .tup [.str "table", .bl true], .tup [.str "world", .bl false], .tup [.str "weights", .bl false], .tup [.str "sizes", .bl false], .tup [.str "colours", .bl false], .tup [.str "query", .bl false], .tup [.str "unlike", .bl false]]
def EW (x : D) (fs : List D) (w t : Option (D × Tag)) : EV := [some (x, .s), some (.exc 1 fs, .s), some (.non, .s), none, w, t, none, none]
section
variable (x : D) (fs : List D)
theorem w3 : mIfS (mT (mO2 isNP (.pl 1) (.ex (mC .non)))) (mRet (mLst [mV 2])) (mNext) (EW x fs none none) = .nx (EW x fs none none) := rfl
theorem w4 : (mSet 4 (mLst [mTup [mC (.str "plan"), mO1 (isxP anc [1] 2) (.pl 1)], mTup [mC (.str "table"), mO1 (isxP anc [1] 1) (.pl 1)], mTup [mC (.str "world"), mO1 (isxP anc [1] 3) (.pl 1)], mTup [mC (.str "weights"), mO1 (isxP anc [1] 4) (.pl 1)]])) (EW x fs none none) = .nx (EW x fs (some (.lst L4, .o)) none) := rfl
theorem w5 : (mSet 4 (mO2 addP (.pl 4) (.ex (mLst [mTup [mC (.str "sizes"), mO1 (isxP anc [1] 5) (.pl 1)], mTup [mC (.str "colours"), mO1 (isxP anc [1] 6) (.pl 1)], mTup [mC (.str "query"), mO1 (isxP anc [1] 7) (.pl 1)], mTup [mC (.str "unlike"), mO1 (isxP anc [1] 8) (.pl 1)]])))) (EW x fs (some (.lst L4, .o)) none) = .nx (EW x fs (some (.lst L8, .o)) none) := rfl
theorem w6a : itSq (mV 4) (EW x fs (some (.lst L8, .o)) none) = .ok L8 (EW x fs (some (.lst L8, .s)) none) := rfl
theorem w6b (a0 a1 a2 a3 a4 a5 : Option (D × Tag)) : lcW L8 [] [a0, a1, a2, a3, a4, a5, none, none] = .ok (.lst [.str "table"]) true [a0, a1, a2, a3, a4, a5, none, none] := by
  unfold L8
  rw [lcW1 _ _ _ _ _ _ _ _ _ _ _ _ rfl rfl, lcW1 _ _ _ _ _ _ _ _ _ _ _ _ rfl rfl, lcW1 _ _ _ _ _ _ _ _ _ _ _ _ rfl rfl, lcW1 _ _ _ _ _ _ _ _ _ _ _ _ rfl rfl, lcW1 _ _ _ _ _ _ _ _ _ _ _ _ rfl rfl, lcW1 _ _ _ _ _ _ _ _ _ _ _ _ rfl rfl, lcW1 _ _ _ _ _ _ _ _ _ _ _ _ rfl rfl, lcW1 _ _ _ _ _ _ _ _ _ _ _ _ rfl rfl]
  rfl
theorem w6 : mSet 5 (mLc (.tp [.nm 6, .nm 7]) [6, 7] (itSq (mV 4)) (mTr (.pl 7)) (mV 6)) (EW x fs (some (.lst L8, .o)) none) = .nx (EW x fs (some (.lst L8, .s)) (some (.lst [.str "table"], .o))) := by
  have h : mLc (.tp [.nm 6, .nm 7]) [6, 7] (itSq (mV 4)) (mTr (.pl 7)) (mV 6) (EW x fs (some (.lst L8, .o)) none) = .ok (.lst [.str "table"]) true (EW x fs (some (.lst L8, .s)) none) := by
    unfold mLc
    rw [show decide (0 ∉ [6, 7]) = true from rfl, w6a]
    exact w6b _ _ _ _ _ _
  unfold mSet bindS; rw [h]; rfl
theorem w7 (p : D) : (mIfS (mT (mO2 neP (.pl 5) (.ex (mLst [])))) (mRet (mTup [mO2 ixP (.pl 5) (.ex (mC (.int 0))), mO1 (attrXP ix_x_part) (.pl 1)])) (mNext)) (EW x (p :: fs) (some (.lst L8, .s)) (some (.lst [.str "table"], .o))) = .rt (.tup [.str "table", p]) false (EW x (p :: fs) (some (.lst L8, .s)) (some (.lst [.str "table"], .o))) := rfl
theorem w7n : (mIfS (mT (mO2 neP (.pl 5) (.ex (mLst [])))) (mRet (mTup [mO2 ixP (.pl 5) (.ex (mC (.int 0))), mO1 (attrXP ix_x_part) (.pl 1)])) (mNext)) (EW x [] (some (.lst L8, .s)) (some (.lst [.str "table"], .o))) = .bad := rfl
theorem wTry {ma : ME} (h : ma (E1 x) = .exc 1 fs (E1 x)) : mTryC hs_MostError 3 1 (mSet 2 ma) (E1 x) = .nx (EW x fs none none) := by
  unfold mTryC mSet bindS; rw [h]; rfl
end
theorem hB {ma : ME} {x : D} {fs : List D} (h : ma (E1 x) = .exc 1 fs (E1 x)) : mkFn n__law_heard.length false (b__law_heard ma) [x] = match fs with
    | p :: _ => .ok (.tup [.str "table", p]) false none
    | [] => .bad := by
  unfold mkFn b__law_heard
  unfold mSeq
  rw [unAt]
  simp only []
  rw [show mTryC hs_MostError 3 1 (mSet 2 ma) [some (x, .s), some (.non, .s), some (.non, .s), none, none, none, none, none] = _ from wTry x fs h]
  simp only [w3, w4, w5, w6]
  cases fs with
  | nil => simp only [w7n]
  | cons p r =>
    simp only [w7]
    rfl
theorem heard_is (f : Addr) (H1 : Hp) (S1 : Sset) (r : RC) : mkFn n__law_heard.length false (b__law_heard (mAsk f H1 S1 r)) [.thk f H1 S1] = hv__law_heard r := by
  have at0 := mAsk_at (f := f) (H1 := H1) (S1 := S1) (r := r) (env := E1 (.thk f H1 S1)) rfl
  cases r with
  | ok d o g => exact hA at0
  | bad => exact hD at0
  | exc c fs g =>
    by_cases hc : c = 1
    · subst hc
      cases fs with
      | nil => exact hB at0
      | cons p r => exact hB at0
    · have e1 : hs_MostError c = none := by
        unfold hs_MostError
        split
        · exact absurd rfl hc
        · rfl
      have e2 : hv__law_heard (.exc c fs g) = .bad := by
        unfold hv__law_heard
        simp only []
      rw [e2]
      exact hC e1 at0

/-- the def that hears -/
structure Hrd (K : PySem.W.Frag) (mg : Str → Option Value) : Prop where
  ex : ∃ (g : Addr) (fd : FuncData), Fun K "_law_heard" "_law_heard" s__law_heard g fd ∧ mg "_law_heard" = some (.ref g) ∧ Binds K fd ["ask"] []
theorem heard__law_heard {X : Cx} {W : WX} {CA : Nat → Addr} {CM fI c Pt : Addr} {tt : List (Addr × Str)} (T : Txt X.prog X.K X.mg CA CM fI tt) (TB : TabB X.base X.mg c Pt) (hcode : X.env.code = .ref c) (LH : Hrd X.K X.mg) (hmT : (Pt, X.env.qual ++ "<lambda>") ∈ tt) (hu : ∀ p ∈ tt, p.1 = Pt → p.2 = X.env.qual ++ "<lambda>") (hr : Room 8 X.A) (tk : Takes X W) (hg : Gl X "_law_heard")
    {params : Arguments} {body : Expr} {scope : Scope} {io : Option Int} {mb : ME} {p lpos pos : Pos} (L : LamSX X.N X.env.scope scope) (hdef : DefsOf params X.env io) (hbind : BindsL params body scope io)
    (hbody : ∀ (A : Around) (outer : List Env) (s : Shared) (H : Hp) (E : XK) (f c' : Addr), Room 6 (A.deeper (lamEnv X scope s.heap.objs.size f c')) → Takes (lamCx X A outer s H E scope f c') (WD E) → DE (lamCx X A outer s H E scope f c') (ctx X.K CA tt) (WD E) body mb) :
    DE X (ctx X.K CA tt) W (.Call (.Name "_law_heard" p) [.Lambda params body scope lpos] [] pos) (mHeard hv__law_heard mb) := by
  obtain ⟨g, fd, F, hm, hb⟩ := LH.ex
  obtain ⟨oc, od, kV, doc, pm, an, cdv, ct, osl, rfl, lk, hcd⟩ := F.ex
  exact de_heard (k := 6) (G := ctx X.K CA tt) (mh := b__law_heard) hg hm F.kp lk hcd hb sc__law_heard rfl (.inl rfl) TB hcode hmT hu hr L hdef hbind tk hbody (fun s H E ma hr tk hask => dss_heard T hr tk hask) heard_is
/-- a lambda's names, looked at -/
def lamSXB (N : List Str) (sc scope : Scope) : Bool :=
  (match scope.kind with | .function => true | _ => false) && (!scope.isCoroutine && (!scope.isGenerator && scope.names.all fun y => (match y.2 with
    | .cell => false
    | .local => decide (y.1 ∉ N)
    | .free => (match sc.names.lookup y.1 with | some .cell => true | some .free => true | _ => false)
    | _ => true)))
theorem lamSX_by {N : List Str} {sc scope : Scope} (h : lamSXB N sc scope = true) : LamSX N sc scope := by
  unfold lamSXB at h
  simp only [Bool.and_eq_true, Bool.not_eq_true', List.all_eq_true] at h
  obtain ⟨h1, h2, h3, h4⟩ := h
  refine ⟨?_, h2, h3, fun y hy => ⟨fun e => ?_, fun e => ?_⟩, fun y hy e => ?_⟩
  · split at h1
    · assumption
    · cases h1
  · have q := h4 y hy
    rw [e] at q; cases q
  · have q := h4 y hy
    rw [e] at q
    exact of_decide_eq_true q
  · have q := h4 y hy
    rw [e] at q
    have q : (match sc.names.lookup y.1 with | some .cell => true | some .free => true | _ => false) = true := q
    cases z : sc.names.lookup y.1 with
    | none => rw [z] at q; cases q
    | some k =>
      rw [z] at q
      cases k <;> first | exact .inl rfl | exact .inr rfl | cases q
/-! ### law -/
abbrev n_law : List Str := ["script", "pen", "turn", "name", "columns", "place", "column", "keys", "kind", "some", "own", "table", "others", "other", "bad", "odd", "far", "word", "away", "none", "heard"]
noncomputable def b_law : MS :=
    mSeq (mSet 1 (mCall c__law_pen [mV 0] []))
    (mSeq (mFor (.nm 2) (mRg1 (mC (.int 8)))
    (mSeq (mUn (.tp [.nm 3, .nm 4]) (mTup [mCallIO c__law_name 1 [mC (.int 8)] [], mLst []]))
    (mSeq (mFor (.nm 5) (mRg1 (mO2 addP (.ex (mC (.int 1))) (.ex (mCallIO c__law_draw 1 [mC (.int 5)] []))))
    (mSeq (mSet 6 (mCallIO c__law_name 1 [mC (.int 8)] []))
    (mSet 4 (mO2 addP (.pl 4) (.ex (mIf (mT (mO2 (inP true) (.pl 6) (.pl 4))) (mLst [mV 6]) (mLst [])))))))
    (mSeq (mUn (.tp [.nm 7, .nm 8]) (mTup [mLc (.nm 6) [6] (itSq (mCallIO c__law_mixed 1 [mV 4] [])) (mT (mO2 eqP (.ex (mCallIO c__law_draw 1 [mC (.int 3)] [])) (.ex (mC (.int 0))))) (mV 6), mCallIO c__law_pick 1 [mLst [mC (.str "heap"), mC (.str "set")]] []]))
    (mSeq (mPar 9 10 (mO1 listQ (.pl 4)) (mO1 listQ (.pl 7)))
    (mSeq (mSet 11 (mMakeK c_Table___init__ 0 [8, 10, 9, 3] permK))
    (mSeq (mExpr (mMt 9 appendP [mC (.str "x")]))
    (mSeq (mExpr (mMt 10 appendP [mC (.str "x")]))
    (mSeq (mIfS (mT (mRpr true (mLst [mO1 (attrP ix_name) (.pl 11), mO1 (attrP ix_columns) (.pl 11), mO1 (attrP ix_unique) (.pl 11), mO1 (attrP ix_kind) (.pl 11)]) (mLst [mV 3, mO1 tupleP (.pl 4), mO1 tupleP (.ex (mO1 sortQ (.pl 7))), mV 8]))) (mRet (mC (.bl false))) (mNext))
    (mSeq (mIfS (mOrT (mT (mOwn true c_Table___eq__ [0] [0] (mV 11) (mMake c_Table___init__ 0 [mV 3, mO1 tupleP (.pl 4), mO1 tupleP (.ex (mO1 revP (.pl 7))), mV 8] []))) (mOrT (mT (mOwn false c_Table___eq__ [0] [0] (mV 11) (mTup [mV 3, mO1 tupleP (.pl 4), mO1 tupleP (.ex (mO1 sortQ (.pl 7))), mV 8]))) (mT (mOwn true c_Table___eq__ [0] [0] (mMake c_Table___init__ 0 [mV 3, mV 4] [.tup [], .str "heap"]) (mMake c_Table___init__ 0 [mV 3, mV 4, mTup [], mC (.str "heap")] []))))) (mRet (mC (.bl false))) (mNext))
    (mSeq (mSet 12 (mLst [mMake c_Table___init__ 0 [mIf (mT (mO2 neP (.pl 3) (.ex (mC (.str "x"))))) (mC (.str "x")) (mC (.str "y")), mV 4, mV 7, mV 8] [], mMake c_Table___init__ 0 [mV 3, mV 4, mV 7, mIf (mT (mO2 eqP (.pl 8) (.ex (mC (.str "heap"))))) (mC (.str "set")) (mC (.str "heap"))] [], mMake c_Table___init__ 0 [mV 3, mV 4, mIf (mT (mO2 eqP (.pl 7) (.ex (mLst [])))) (mV 4) (mLst []), mV 8] []]))
    (mSeq (mIfS (mT (mO2 (cmpP fun i j => decide (j < i)) (.ex (mO1 lenP (.pl 4))) (.ex (mC (.int 1))))) (mExpr (mMt 12 appendP [mMake c_Table___init__ 0 [mV 3, mO1 revP (.pl 4), mV 7, mV 8] []])) (mNext))
    (mSeq (mIfS (mT (mO2 neP (.ex (mLc (.nm 13) [13] (itSq (mV 12)) (mT (mOwn false c_Table___eq__ [0] [0] (mV 13) (mV 11))) (mV 13))) (.ex (mLst [])))) (mRet (mC (.bl false))) (mNext))
    (mSeq (mSet 14 (mCallIO c__law_pick 1 [mLst [mC .non, mC (.int 5), mC (.str ""), mC (.str "A"), mC (.str "a1"), mC (.str "a b"), mC (.str "abcdefghi"), mLst [mC (.str "a")], mTup [mC (.str "a")], mC (.bl true), mC (.str "a_")]] []))
    (mSeq (mSet 15 (mCallIO c__law_pick 1 [mLst [mC .non, mC (.int 5), mTup [], mLst [], mC (.str "ab"), mDct [(mC (.str "a"), mC (.int 1))], mLst [mC (.str "a"), mC (.str "a")], mLst [mC (.str "a"), mC (.str "")], mLst [mC (.str "a"), mC .non], mLst [mC (.str "abcdefghi")], mLst [mC (.str "a"), mC (.str "b"), mC (.str "c"), mC (.str "d"), mC (.str "e"), mC (.str "f")], mLst [mLst [mC (.str "a")]]]] []))
    (mSeq (mSet 16 (mO2 ixP (.ex (mLc (.nm 17) [17] (itSq (mTup [mC (.str "za"), mC (.str "zb"), mC (.str "zc"), mC (.str "zd"), mC (.str "ze"), mC (.str "zf")])) (mT (mO2 (inP true) (.pl 17) (.pl 4))) (mV 17))) (.ex (mC (.int 0)))))
    (mSeq (mSet 18 (mCallIO c__law_pick 1 [mLst [mC .non, mC (.int 5), mC (.str "a"), mO2 ixP (.pl 4) (.ex (mC (.int 0))), mDct [(mC (.str "a"), mC (.int 1))], mLst [mO2 ixP (.pl 4) (.ex (mC (.int 0))), mO2 ixP (.pl 4) (.ex (mC (.int 0)))], mLst [mV 16], mLst [mC .non], mLst [mLst [mO2 ixP (.pl 4) (.ex (mC (.int 0)))]]]] []))
    (mSeq (mSet 19 (mCallIO c__law_pick 1 [mLst [mC .non, mC (.int 5), mC (.str "Heap"), mC (.str ""), mC (.str "bag"), mC (.bl true), mTup [mC (.str "set")]]] []))
    (mSeq (mSet 20 (mLst [mHeard hv__law_heard (mMake c_Table___init__ 0 [mV 14, mV 15, mV 18, mV 19] []), mHeard hv__law_heard (mMake c_Table___init__ 0 [mV 3, mV 15, mV 18, mV 19] []), mHeard hv__law_heard (mMake c_Table___init__ 0 [mV 3, mV 4, mV 18, mV 19] [])]))
    (mSeq (mExpr (mMt 20 appendP [mHeard hv__law_heard (mMake c_Table___init__ 0 [mV 3, mV 4, mV 7, mV 19] [])]))
    (mIfS (mT (mO2 neP (.pl 20) (.ex (mLst [mTup [mC (.str "table"), mC (.str "name")], mTup [mC (.str "table"), mC (.str "columns")], mTup [mC (.str "table"), mC (.str "unique")], mTup [mC (.str "table"), mC (.str "kind")]])))) (mRet (mC (.bl false))) (mNext))))))))))))))))))))))
    (mRet (mC (.bl true))))
theorem sc_law : FnScope n_law ["script"] (defScope s_law) := ⟨rfl, rfl, rfl, by decide +kernel, rfl, by decide +kernel, by decide +kernel⟩
abbrev lamQ : Str := (envOfC "law" (defScope s_law) 0 0 Value.none).qual ++ "<lambda>"
theorem dss_law {P : Program} {w : World} {K : PySem.W.Frag} {mg : Str → Option Value} {base : Heap} {CA : Nat → Addr} {CM fI c Pt : Addr} (T : Txt P K mg CA CM fI [(Pt, lamQ)]) (C_law_pen : Cal P w K mg base (ctx K CA [(Pt, lamQ)]) "_law_pen" false 1 2 c__law_pen []) (C_law_name : Cal P w K mg base (ctx K CA [(Pt, lamQ)]) "_law_name" true 2 4 c__law_name []) (C_law_draw : Cal P w K mg base (ctx K CA [(Pt, lamQ)]) "_law_draw" true 2 2 c__law_draw []) (C_law_mixed : Cal P w K mg base (ctx K CA [(Pt, lamQ)]) "_law_mixed" true 2 3 c__law_mixed []) (C_law_pick : Cal P w K mg base (ctx K CA [(Pt, lamQ)]) "_law_pick" true 2 3 c__law_pick [])
    (CTable___init__ : Mak P w K mg base (ctx K CA [(Pt, lamQ)]) "Table" 0 5 5 c_Table___init__ []) (CTable___init___2 : Mak P w K mg base (ctx K CA [(Pt, lamQ)]) "Table" 0 5 5 c_Table___init__ [.tup [], .str "heap"]) (CK : MakKw P w K mg base (ctx K CA [(Pt, lamQ)]) "Table" 0 5 5 c_Table___init__ ["kind", "unique", "columns", "name"] permK)
    (CTable___eq__ : OwnC P w K mg base (ctx K CA [(Pt, lamQ)]) [0] [0] 2 c_Table___eq__) (LH : Hrd K mg) (TB : TabB base mg c Pt) {f : Addr} {A : Around} {outer : List Env} {s : Shared} {H : Hp} {E : XK} (hr : Room 8 (A.deeper (envOfC "law" (defScope s_law) s.heap.objs.size f (.ref c)))) (hgu : (A.deeper (envOfC "law" (defScope s_law) s.heap.objs.size f (.ref c))).guards = some [])
    (tk : Takes (cxOf (L2.CX P w) P w K mg base n_law "law" (defScope s_law) f (.ref c) A outer s H E) (WD E)) :
    DSs (cxOf (L2.CX P w) P w K mg base n_law "law" (defScope s_law) f (.ref c) A outer s H E) (ctx K CA [(Pt, lamQ)]) (WD E) (defBody s_law) b_law :=
  have ND := sc_law.nd
  have hK : (ctx K CA [(Pt, lamQ)]).K = K := rfl
  have hmT : (Pt, (cxOf (L2.CX P w) P w K mg base n_law "law" (defScope s_law) f (.ref c) A outer s H E).env.qual ++ "<lambda>") ∈ [(Pt, lamQ)] := List.mem_cons_self
  have hu : ∀ p ∈ [(Pt, lamQ)], p.1 = Pt → p.2 = (cxOf (L2.CX P w) P w K mg base n_law "law" (defScope s_law) f (.ref c) A outer s H E).env.qual ++ "<lambda>" := fun p hp _ => by
    rcases List.mem_cons.mp hp with rfl | h
    · rfl
    · cases h
  dss_cons (ds_set ND rfl (.inr rfl) (de_cal C_law_pen hr (by decide) rfl tk (da_cons (de_v (pv 0)) (da_nil)) rfl))
    (dss_cons (ds_for (passes_of rfl) rfl (di_rg1 rfl T.n_range (de_int)) (dg_nm ND rfl (.inl rfl))
    (dss_cons (ds_un (de_tup (da_cons (de_calIO C_law_name hr (by decide) rfl tk (pv 1) (da_cons (de_int) (da_nil)) rfl) (da_cons (de_lst (da_nil)) (da_nil)))) (dg_tp hK rfl (dgs_cons (dg_nm ND rfl (.inr rfl)) (dgs_cons (dg_nm ND rfl (.inr rfl)) (dgs_nil)))))
    (dss_cons (ds_for (passes_of rfl) rfl (di_rg1 rfl T.n_range (de_op op_addAll (addP_ok hK) (de_int) (de_calIO C_law_draw hr (by decide) rfl tk (pv 1) (da_cons (de_int) (da_nil)) rfl))) (dg_nm ND rfl (.inl rfl))
    (dss_cons (ds_set ND rfl (.inl rfl) (de_calIO C_law_name hr (by decide) rfl tk (pv 1) (da_cons (de_int) (da_nil)) rfl))
    (dss_one (ds_set ND rfl (.inr rfl) (de_op op_addAll (addP_ok hK) (pv 4) (de_if (dt_cmp (op_notInAll) (inP_ok hK) (pv 6) (pv 4) (by with_unfolding_all rfl)) (de_lst (da_cons (de_v (pv 6)) (da_nil))) (de_lst (da_nil))))))))
    (dss_cons (ds_un (de_tup (da_cons (de_lc (own := [("column", 6)]) rfl ND (di_sqQ hK (de_calIO C_law_mixed hr (by decide) rfl tk (pv 1) (da_cons (de_v (pv 4)) (da_nil)) rfl)) (by rfl) (fun _ _ _ _ _ => dg_nm ND rfl (.inl rfl)) (fun _ _ _ _ _ => dts_one (dt_cmp (op_eqD (un64 hr)) (eqP_ok hK) (de_calIO C_law_draw hr (by decide) rfl LamX.takes0 (pv 1) (da_cons (de_int) (da_nil)) rfl) (de_int) (nomark _))) (fun _ _ _ _ _ => de_v (pv 6))) (da_cons (de_calIO C_law_pick hr (by decide) rfl tk (pv 1) (da_cons (de_lst (da_cons (de_str) (da_cons (de_str) (da_nil)))) (da_nil)) rfl) (da_nil)))) (dg_tp hK rfl (dgs_cons (dg_nm ND rfl (.inr rfl)) (dgs_cons (dg_nm ND rfl (.inl rfl)) (dgs_nil)))))
    (dss_cons (ds_par rfl ND rfl rfl (by decide) rfl rfl (de_t1 call_list_of (listQ_ok hK) rfl T.n_list (by decide +kernel) (pv 4)) (de_t1 call_list_of (listQ_ok hK) rfl T.n_list (by decide +kernel) (pv 7)))
    (dss_cons (ds_set ND rfl (.inr rfl) (de_makeKC CK hr (by decide) (.cons (pv 8) (.cons (pv 10) (.cons (pv 9) (.cons (pv 3) (KwV.nil)))))))
    (dss_cons (ds_expr (de_mt PySem.F.plainAttrs_list PySem.F.slot_list_append PySem.F.type_list_append mt_append appendP_ok (pv 9) (da_cons (de_str) (da_nil))))
    (dss_cons (ds_expr (de_mt PySem.F.plainAttrs_list PySem.F.slot_list_append PySem.F.type_list_append mt_append appendP_ok (pv 10) (da_cons (de_str) (da_nil))))
    (dss_cons (ds_if (dt_rpr (neg := true) rfl hK hgu (un66 hr) rfl T.n_repr (de_lst (da_cons (de_attr T.f_name (pv 11)) (da_cons (de_attr T.f_columns (pv 11)) (da_cons (de_attr T.f_unique (pv 11)) (da_cons (de_attr T.f_kind (pv 11)) (da_nil)))))) (de_lst (da_cons (de_v (pv 3)) (da_cons (de_t1 call_tuple_of (tupleP_ok hK) rfl T.n_tuple (by decide +kernel) (pv 4)) (da_cons (de_t1 call_tuple_of (tupleP_ok hK) rfl T.n_tuple (by decide +kernel) (de_b1 cr_sortQ (sortQ_ok hK) rfl T.n_sorted (by decide +kernel) (pv 7))) (da_cons (de_v (pv 8)) (da_nil))))))) (dss_one (ds_ret (de_bl))) (dss_nil))
    (dss_cons (ds_if (dt_w (dw_or (dt_ownC (neg := true) rfl hK CTable___eq__ hr (by decide) (de_v (pv 11)) (de_mak CTable___init__ hr (by decide) rfl tk (da_cons (de_v (pv 3)) (da_cons (de_t1 call_tuple_of (tupleP_ok hK) rfl T.n_tuple (by decide +kernel) (pv 4)) (da_cons (de_t1 call_tuple_of (tupleP_ok hK) rfl T.n_tuple (by decide +kernel) (de_rev (pv 7))) (da_cons (de_v (pv 8)) (da_nil))))) rfl)) (dw_or (dt_ownC (neg := false) rfl hK CTable___eq__ hr (by decide) (de_v (pv 11)) (de_tup (da_cons (de_v (pv 3)) (da_cons (de_t1 call_tuple_of (tupleP_ok hK) rfl T.n_tuple (by decide +kernel) (pv 4)) (da_cons (de_t1 call_tuple_of (tupleP_ok hK) rfl T.n_tuple (by decide +kernel) (de_b1 cr_sortQ (sortQ_ok hK) rfl T.n_sorted (by decide +kernel) (pv 7))) (da_cons (de_v (pv 8)) (da_nil))))))) (dw_or1 (dt_ownC (neg := true) rfl hK CTable___eq__ hr (by decide) (de_mak CTable___init___2 hr (by decide) rfl tk (da_cons (de_v (pv 3)) (da_cons (de_v (pv 4)) (da_nil))) rfl) (de_mak CTable___init__ hr (by decide) rfl tk (da_cons (de_v (pv 3)) (da_cons (de_v (pv 4)) (da_cons (de_tup (da_nil)) (da_cons (de_str) (da_nil))))) rfl)))))) (dss_one (ds_ret (de_bl))) (dss_nil))
    (dss_cons (ds_set ND rfl (.inl rfl) (de_lst (da_cons (de_mak CTable___init__ hr (by decide) rfl tk (da_cons (de_if (dt_cmp (op_neD (un64 hr)) (neP_ok hK) (pv 3) (de_str) (nomark _)) (de_str) (de_str)) (da_cons (de_v (pv 4)) (da_cons (de_v (pv 7)) (da_cons (de_v (pv 8)) (da_nil))))) rfl) (da_cons (de_mak CTable___init__ hr (by decide) rfl tk (da_cons (de_v (pv 3)) (da_cons (de_v (pv 4)) (da_cons (de_v (pv 7)) (da_cons (de_if (dt_cmp (op_eqD (un64 hr)) (eqP_ok hK) (pv 8) (de_str) (nomark _)) (de_str) (de_str)) (da_nil))))) rfl) (da_cons (de_mak CTable___init__ hr (by decide) rfl tk (da_cons (de_v (pv 3)) (da_cons (de_v (pv 4)) (da_cons (de_if (dt_cmp (op_eqD (un64 hr)) (eqP_ok hK) (pv 7) (de_lst (da_nil)) (nomark _)) (de_v (pv 4)) (de_lst (da_nil))) (da_cons (de_v (pv 8)) (da_nil))))) rfl) (da_nil))))))
    (dss_cons (ds_if (dt_cmp (op_gt) (cmpP_ok) (de_b1 call_len (lenP_ok hK) rfl T.n_len (by decide +kernel) (pv 4)) (de_int) (nomark _)) (dss_one (ds_expr (de_mt PySem.F.plainAttrs_list PySem.F.slot_list_append PySem.F.type_list_append mt_append appendP_ok (pv 12) (da_cons (de_mak CTable___init__ hr (by decide) rfl tk (da_cons (de_v (pv 3)) (da_cons (de_rev (pv 4)) (da_cons (de_v (pv 7)) (da_cons (de_v (pv 8)) (da_nil))))) rfl) (da_nil))))) (dss_nil))
    (dss_cons (ds_if (dt_cmp (op_neD (un64 hr)) (neP_ok hK) (de_lc (own := [("other", 13)]) rfl ND (di_sqQ hK (de_v (pv 12))) (by rfl) (fun _ _ _ _ _ => dg_nm ND rfl (.inl rfl)) (fun _ _ _ _ _ => dts_one (dt_ownC (neg := false) rfl hK CTable___eq__ hr (by decide) (de_v (pv 13)) (de_v (pv 11)))) (fun _ _ _ _ _ => de_v (pv 13))) (de_lst (da_nil)) (nomark _)) (dss_one (ds_ret (de_bl))) (dss_nil))
    (dss_cons (ds_set ND rfl (.inr rfl) (de_calIO C_law_pick hr (by decide) rfl tk (pv 1) (da_cons (de_lst (da_cons (de_non) (da_cons (de_int) (da_cons (de_str) (da_cons (de_str) (da_cons (de_str) (da_cons (de_str) (da_cons (de_str) (da_cons (de_lst (da_cons (de_str) (da_nil))) (da_cons (de_tup (da_cons (de_str) (da_nil))) (da_cons (de_bl) (da_cons (de_str) (da_nil))))))))))))) (da_nil)) rfl))
    (dss_cons (ds_set ND rfl (.inr rfl) (de_calIO C_law_pick hr (by decide) rfl tk (pv 1) (da_cons (de_lst (da_cons (de_non) (da_cons (de_int) (da_cons (de_tup (da_nil)) (da_cons (de_lst (da_nil)) (da_cons (de_str) (da_cons (de_dct (dps_cons (de_str) (de_int) (dps_nil))) (da_cons (de_lst (da_cons (de_str) (da_cons (de_str) (da_nil)))) (da_cons (de_lst (da_cons (de_str) (da_cons (de_str) (da_nil)))) (da_cons (de_lst (da_cons (de_str) (da_cons (de_non) (da_nil)))) (da_cons (de_lst (da_cons (de_str) (da_nil))) (da_cons (de_lst (da_cons (de_str) (da_cons (de_str) (da_cons (de_str) (da_cons (de_str) (da_cons (de_str) (da_cons (de_str) (da_nil)))))))) (da_cons (de_lst (da_cons (de_lst (da_cons (de_str) (da_nil))) (da_nil))) (da_nil)))))))))))))) (da_nil)) rfl))
    (dss_cons (ds_set ND rfl (.inl rfl) (de_ix ix_seq (ixP_ok hK) (de_lc (own := [("word", 17)]) rfl ND (di_sqQ hK (de_tup (da_cons (de_str) (da_cons (de_str) (da_cons (de_str) (da_cons (de_str) (da_cons (de_str) (da_cons (de_str) (da_nil))))))))) (by rfl) (fun _ _ _ _ _ => dg_nm ND rfl (.inl rfl)) (fun _ _ _ _ _ => dts_one (dt_cmp (op_notInAll) (inP_ok hK) (pv 17) (pv 4) (by with_unfolding_all rfl))) (fun _ _ _ _ _ => de_v (pv 17))) (de_int)))
    (dss_cons (ds_set ND rfl (.inr rfl) (de_calIO C_law_pick hr (by decide) rfl tk (pv 1) (da_cons (de_lst (da_cons (de_non) (da_cons (de_int) (da_cons (de_str) (da_cons (de_ix ix_seq (ixP_ok hK) (pv 4) (de_int)) (da_cons (de_dct (dps_cons (de_str) (de_int) (dps_nil))) (da_cons (de_lst (da_cons (de_ix ix_seq (ixP_ok hK) (pv 4) (de_int)) (da_cons (de_ix ix_seq (ixP_ok hK) (pv 4) (de_int)) (da_nil)))) (da_cons (de_lst (da_cons (de_v (pv 16)) (da_nil))) (da_cons (de_lst (da_cons (de_non) (da_nil))) (da_cons (de_lst (da_cons (de_lst (da_cons (de_ix ix_seq (ixP_ok hK) (pv 4) (de_int)) (da_nil))) (da_nil))) (da_nil))))))))))) (da_nil)) rfl))
    (dss_cons (ds_set ND rfl (.inr rfl) (de_calIO C_law_pick hr (by decide) rfl tk (pv 1) (da_cons (de_lst (da_cons (de_non) (da_cons (de_int) (da_cons (de_str) (da_cons (de_str) (da_cons (de_str) (da_cons (de_bl) (da_cons (de_tup (da_cons (de_str) (da_nil))) (da_nil))))))))) (da_nil)) rfl))
    (dss_cons (ds_set ND rfl (.inl rfl) (de_lst (da_cons (heard__law_heard T TB rfl LH hmT hu hr tk rfl (io := none) (lamSX_by (by rfl)) (by rfl) (by intro s q cl dV pm cdv ct h; subst h; exact ⟨[], BindsTo.of_eq rfl, fun y hy => by cases hy⟩) (fun A outer s H E f c' hr tk => de_mak CTable___init__ hr (by decide) rfl tk (da_cons (de_v (pv 14)) (da_cons (de_v (pv 15)) (da_cons (de_v (pv 18)) (da_cons (de_v (pv 19)) (da_nil))))) rfl)) (da_cons (heard__law_heard T TB rfl LH hmT hu hr tk rfl (io := (some 0)) (lamSX_by (by rfl)) (by exact ⟨_, _, rfl⟩) (by rintro s q cl dV pm cdv ct ⟨T, t, rfl, ho⟩; exact ⟨_, BindsTo.of_defaults rfl ho rfl rfl rfl, fun y hy => by rcases List.mem_cons.mp hy with rfl | hy; rfl; cases hy⟩) (fun A outer s H E f c' hr tk => de_mak CTable___init__ hr (by decide) rfl tk (da_cons (de_v (pv 3)) (da_cons (de_v (pv 15)) (da_cons (de_v (pv 18)) (da_cons (de_v (pv 19)) (da_nil))))) rfl)) (da_cons (heard__law_heard T TB rfl LH hmT hu hr tk rfl (io := (some 0)) (lamSX_by (by rfl)) (by exact ⟨_, _, rfl⟩) (by rintro s q cl dV pm cdv ct ⟨T, t, rfl, ho⟩; exact ⟨_, BindsTo.of_defaults rfl ho rfl rfl rfl, fun y hy => by rcases List.mem_cons.mp hy with rfl | hy; rfl; cases hy⟩) (fun A outer s H E f c' hr tk => de_mak CTable___init__ hr (by decide) rfl tk (da_cons (de_v (pv 3)) (da_cons (de_v (pv 4)) (da_cons (de_v (pv 18)) (da_cons (de_v (pv 19)) (da_nil))))) rfl)) (da_nil))))))
    (dss_cons (ds_expr (de_mt PySem.F.plainAttrs_list PySem.F.slot_list_append PySem.F.type_list_append mt_append appendP_ok (pv 20) (da_cons (heard__law_heard T TB rfl LH hmT hu hr tk rfl (io := none) (lamSX_by (by rfl)) (by rfl) (by intro s q cl dV pm cdv ct h; subst h; exact ⟨[], BindsTo.of_eq rfl, fun y hy => by cases hy⟩) (fun A outer s H E f c' hr tk => de_mak CTable___init__ hr (by decide) rfl tk (da_cons (de_v (pv 3)) (da_cons (de_v (pv 4)) (da_cons (de_v (pv 7)) (da_cons (de_v (pv 19)) (da_nil))))) rfl)) (da_nil))))
    (dss_one (ds_if (dt_cmp (op_neD (un64 hr)) (neP_ok hK) (pv 20) (de_lst (da_cons (de_tup (da_cons (de_str) (da_cons (de_str) (da_nil)))) (da_cons (de_tup (da_cons (de_str) (da_cons (de_str) (da_nil)))) (da_cons (de_tup (da_cons (de_str) (da_cons (de_str) (da_nil)))) (da_cons (de_tup (da_cons (de_str) (da_cons (de_str) (da_nil)))) (da_nil)))))) (nomark _)) (dss_one (ds_ret (de_bl))) (dss_nil)))))))))))))))))))))))
    (dss_one (ds_ret (de_bl))))
end K01

set_option Elab.async false
set_option linter.all false
set_option maxRecDepth 100000
set_option maxHeartbeats 4000000
/-! K01C: the facts of law k01. Printed by k01c.py. -/
namespace K01
open PySem PySem.Spec PyProof.Rows L2 DL LamX
theorem in0 {c : Nat} (h : [0].contains c = true) : c = 0 := by simpa using h
theorem in1 {c : Nat} (h : [1].contains c = true) : c = 1 := by simpa using h
def CAof (l : List Addr) : Nat → Addr := fun i => l.getD i 0
/-- what the top has written, as found in K -/
structure FactsC (K : PySem.W.Frag) (CS : List Addr) (CM fE : Addr) : Prop where
  len : CS.length = 14
  c0 : PySem.W.nsIn K mainGlobals "Table" = some (some (.ref (CAof CS 0)))
  c1 : PySem.W.nsIn K mainGlobals "BadTable" = some (some (.ref (CAof CS 1)))
  c2 : PySem.W.nsIn K mainGlobals "BadPlan" = some (some (.ref (CAof CS 2)))
  c3 : PySem.W.nsIn K mainGlobals "BadWorld" = some (some (.ref (CAof CS 3)))
  c4 : PySem.W.nsIn K mainGlobals "BadWeights" = some (some (.ref (CAof CS 4)))
  c5 : PySem.W.nsIn K mainGlobals "BadSizes" = some (some (.ref (CAof CS 5)))
  c6 : PySem.W.nsIn K mainGlobals "BadColours" = some (some (.ref (CAof CS 6)))
  c7 : PySem.W.nsIn K mainGlobals "BadQuery" = some (some (.ref (CAof CS 7)))
  c8 : PySem.W.nsIn K mainGlobals "Unlike" = some (some (.ref (CAof CS 8)))
  c9 : PySem.W.nsIn K mainGlobals "BadName" = some (some (.ref (CAof CS 9)))
  c10 : PySem.W.nsIn K mainGlobals "BadChoice" = some (some (.ref (CAof CS 10)))
  c11 : PySem.W.nsIn K mainGlobals "BadNumber" = some (some (.ref (CAof CS 11)))
  c12 : PySem.W.nsIn K mainGlobals "BadStep" = some (some (.ref (CAof CS 12)))
  c13 : PySem.W.nsIn K mainGlobals "TooMany" = some (some (.ref (CAof CS 13)))
  cM : PySem.W.nsIn K mainGlobals "MostError" = some (some (.ref CM))
  z_len : PySem.W.nsIn K mainGlobals "len" = some none
  z_all : PySem.W.nsIn K mainGlobals "all" = some none
  z_sorted : PySem.W.nsIn K mainGlobals "sorted" = some none
  z_abs : PySem.W.nsIn K mainGlobals "abs" = some none
  z_zip : PySem.W.nsIn K mainGlobals "zip" = some none
  z_range : PySem.W.nsIn K mainGlobals "range" = some none
  z_repr : PySem.W.nsIn K mainGlobals "repr" = some none
  z_isinstance : PySem.W.nsIn K mainGlobals "isinstance" = some none
  z_str : PySem.W.nsIn K mainGlobals "str" = some none
  z_list : PySem.W.nsIn K mainGlobals "list" = some none
  z_tuple : PySem.W.nsIn K mainGlobals "tuple" = some none
  z_int : PySem.W.nsIn K mainGlobals "int" = some none
  z_super : PySem.W.nsIn K mainGlobals "super" = some none
  v1 : ∃ t, PySem.W.nsIn K mainGlobals "LETTERS" = some (some (.str "abcdefghijklmnopqrstuvwxyz" t))
  v2 : ∃ t, PySem.W.nsIn K mainGlobals "MOST_SIGNS" = some (some (.int 8 t))
  v3 : ∃ t, PySem.W.nsIn K mainGlobals "MOST_COLUMNS" = some (some (.int 5 t))
  v4 : ∃ a, PySem.W.nsIn K mainGlobals "KINDS" = some (some (.ref a)) ∧ KTup K a [.str "heap", .str "set"]
  ins : InsK K (CAof CS 0)
  n_name : NoAttr K (CAof CS 0) "name"
  n_columns : NoAttr K (CAof CS 0) "columns"
  n_unique : NoAttr K (CAof CS 0) "unique"
  n_kind : NoAttr K (CAof CS 0) "kind"
  k_str : PySem.W.kitOne K (.ref (CAof CS 0)) (.type "str") = some false
  k_list : PySem.W.kitOne K (.ref (CAof CS 0)) (.type "list") = some false
  k_tuple : PySem.W.kitOne K (.ref (CAof CS 0)) (.type "tuple") = some false
  k_own : PySem.W.kitOne K (.ref (CAof CS 0)) (.ref (CAof CS 0)) = some true
  k_NoneType0 : PySem.W.kitOne K (.type "NoneType") (.ref (CAof CS 0)) = some false
  nf_NoneType : PySem.W.notFirst K (CAof CS 0) (.type "NoneType") = true
  k_bool0 : PySem.W.kitOne K (.type "bool") (.ref (CAof CS 0)) = some false
  nf_bool : PySem.W.notFirst K (CAof CS 0) (.type "bool") = true
  k_int0 : PySem.W.kitOne K (.type "int") (.ref (CAof CS 0)) = some false
  nf_int : PySem.W.notFirst K (CAof CS 0) (.type "int") = true
  k_str0 : PySem.W.kitOne K (.type "str") (.ref (CAof CS 0)) = some false
  nf_str : PySem.W.notFirst K (CAof CS 0) (.type "str") = true
  k_tuple0 : PySem.W.kitOne K (.type "tuple") (.ref (CAof CS 0)) = some false
  nf_tuple : PySem.W.notFirst K (CAof CS 0) (.type "tuple") = true
  k_list0 : PySem.W.kitOne K (.type "list") (.ref (CAof CS 0)) = some false
  nf_list : PySem.W.notFirst K (CAof CS 0) (.type "list") = true
  k_dict0 : PySem.W.kitOne K (.type "dict") (.ref (CAof CS 0)) = some false
  nf_dict : PySem.W.notFirst K (CAof CS 0) (.type "dict") = true
  nf_own : PySem.W.notFirst K (CAof CS 0) (.ref (CAof CS 0)) = true
  oe : OwnE K (CAof CS 0) fE
  feq : ∃ fd, Fun K "__eq__" "Table.__eq__" s_Table___eq__ fE fd
  init : ∃ (fI0 : Addr) (fd : FuncData) (e : Addr), Mk K (CAof CS 0) fI0 ∧ KTup K e [] ∧ FunD K "__init__" "Table.__init__" (defArgs s_Table___init__) (defBody s_Table___init__) (defScope s_Table___init__) [.ref e, .str "heap"] [] fI0 fd
  exc : ExcC K (CAof CS 1)
  exf : ExF K (CAof CS 1) "part"
  x1 : PySem.W.kitOne K (.ref (CAof CS 1)) (.ref (CAof CS 1)) = some true
  x2 : PySem.W.kitOne K (.ref (CAof CS 1)) (.ref (CAof CS 2)) = some false
  x3 : PySem.W.kitOne K (.ref (CAof CS 1)) (.ref (CAof CS 3)) = some false
  x4 : PySem.W.kitOne K (.ref (CAof CS 1)) (.ref (CAof CS 4)) = some false
  x5 : PySem.W.kitOne K (.ref (CAof CS 1)) (.ref (CAof CS 5)) = some false
  x6 : PySem.W.kitOne K (.ref (CAof CS 1)) (.ref (CAof CS 6)) = some false
  x7 : PySem.W.kitOne K (.ref (CAof CS 1)) (.ref (CAof CS 7)) = some false
  x8 : PySem.W.kitOne K (.ref (CAof CS 1)) (.ref (CAof CS 8)) = some false
  x9 : PySem.W.kitOne K (.ref (CAof CS 1)) (.ref (CAof CS 9)) = some false
  x10 : PySem.W.kitOne K (.ref (CAof CS 1)) (.ref (CAof CS 10)) = some false
  x11 : PySem.W.kitOne K (.ref (CAof CS 1)) (.ref (CAof CS 11)) = some false
  x12 : PySem.W.kitOne K (.ref (CAof CS 1)) (.ref (CAof CS 12)) = some false
  x13 : PySem.W.kitOne K (.ref (CAof CS 1)) (.ref (CAof CS 13)) = some false
  xm : PySem.W.exmOne K (.ref (CAof CS 1)) (.ref CM) = some true
  d_is_name : DefK K "is_name" s_is_name
  d_is_listed : DefK K "is_listed" s_is_listed
  d_ascends : DefK K "ascends" s_ascends
  d_are_unlike : DefK K "are_unlike" s_are_unlike
  d_are_names : DefK K "are_names" s_are_names
  d__law_pen : DefK K "_law_pen" s__law_pen
  d__law_draw : DefK K "_law_draw" s__law_draw
  d__law_pick : DefK K "_law_pick" s__law_pick
  d__law_mixed : DefK K "_law_mixed" s__law_mixed
  d__law_heard : DefK K "_law_heard" s__law_heard
  d__law_name : DefK K "_law_name" s__law_name
theorem txt {P : Program} {K : PySem.W.Frag} {h : Heap} {mg : Str → Option Value} {CS : List Addr} {CM fE fI : Addr} {tt : List (Addr × Str)} (X : K.In h) (N : h.Ns mainGlobals mg) (F : FactsC K CS CM fE) (hx : ExT P K mg (CAof CS 1) fI "part") : Txt P K mg (CAof CS) CM fI tt where
  n_len := PySem.W.mg_none_of X N F.z_len
  n_all := PySem.W.mg_none_of X N F.z_all
  n_sorted := PySem.W.mg_none_of X N F.z_sorted
  n_abs := PySem.W.mg_none_of X N F.z_abs
  n_zip := PySem.W.mg_none_of X N F.z_zip
  n_range := PySem.W.mg_none_of X N F.z_range
  n_repr := PySem.W.mg_none_of X N F.z_repr
  n_isinstance := PySem.W.mg_none_of X N F.z_isinstance
  n_str := PySem.W.mg_none_of X N F.z_str
  n_list := PySem.W.mg_none_of X N F.z_list
  n_tuple := PySem.W.mg_none_of X N F.z_tuple
  n_int := PySem.W.mg_none_of X N F.z_int
  v_LETTERS := let ⟨t, h⟩ := F.v1; ⟨t, PySem.W.mg_of X N h⟩
  v_MOST_SIGNS := let ⟨t, h⟩ := F.v2; ⟨t, PySem.W.mg_of X N h⟩
  v_MOST_COLUMNS := let ⟨t, h⟩ := F.v3; ⟨t, PySem.W.mg_of X N h⟩
  v_KINDS := let ⟨a, h, k⟩ := F.v4; ⟨a, PySem.W.mg_of X N h, k⟩
  ins := fun c hc => by
    have e := in0 hc
    subst e
    exact F.ins
  k_str := kit_blt rfl fun c hc => by
    have e := in0 hc
    subst e
    exact F.k_str
  k_list := kit_blt rfl fun c hc => by
    have e := in0 hc
    subst e
    exact F.k_list
  k_tuple := kit_blt rfl fun c hc => by
    have e := in0 hc
    subst e
    exact F.k_tuple
  k_Table := kit_own (fun c hc => by
    have e := in0 hc
    subst e
    exact F.k_own) fun T hT => by
    simp only [List.mem_cons, List.not_mem_nil, or_false] at hT
    rcases hT with rfl | rfl | rfl | rfl | rfl | rfl | rfl
    · exact F.k_NoneType0
    · exact F.k_bool0
    · exact F.k_int0
    · exact F.k_str0
    · exact F.k_tuple0
    · exact F.k_list0
    · exact F.k_dict0
  g_Table := PySem.W.mg_of X N F.c0
  g_BadTable := PySem.W.mg_of X N F.c1
  g_BadPlan := PySem.W.mg_of X N F.c2
  g_BadWorld := PySem.W.mg_of X N F.c3
  g_BadWeights := PySem.W.mg_of X N F.c4
  g_BadSizes := PySem.W.mg_of X N F.c5
  g_BadColours := PySem.W.mg_of X N F.c6
  g_BadQuery := PySem.W.mg_of X N F.c7
  g_Unlike := PySem.W.mg_of X N F.c8
  g_BadName := PySem.W.mg_of X N F.c9
  g_BadChoice := PySem.W.mg_of X N F.c10
  g_BadNumber := PySem.W.mg_of X N F.c11
  g_BadStep := PySem.W.mg_of X N F.c12
  g_TooMany := PySem.W.mg_of X N F.c13
  g_MostError := PySem.W.mg_of X N F.cM
  f_name := fun c j h => by
    unfold ix_name at h
    split at h
    · cases h
      exact ⟨F.ins.cl, F.n_name, rfl, (by decide : (fieldsOf 0).Nodup)⟩
    · cases h
  f_columns := fun c j h => by
    unfold ix_columns at h
    split at h
    · cases h
      exact ⟨F.ins.cl, F.n_columns, rfl, (by decide : (fieldsOf 0).Nodup)⟩
    · cases h
  f_unique := fun c j h => by
    unfold ix_unique at h
    split at h
    · cases h
      exact ⟨F.ins.cl, F.n_unique, rfl, (by decide : (fieldsOf 0).Nodup)⟩
    · cases h
  f_kind := fun c j h => by
    unfold ix_kind at h
    split at h
    · cases h
      exact ⟨F.ins.cl, F.n_kind, rfl, (by decide : (fieldsOf 0).Nodup)⟩
    · cases h
  x_BadTable := hx
  xk := fun c hc k hk => by
    have e := in1 hk
    subst e
    refine ⟨F.exc, ?_⟩
    have q := of_decide_eq_true hc
    obtain ⟨q1, q2⟩ := q
    match c, q1, q2 with
    | 1, _, _ => exact F.x1
    | 2, _, _ => exact F.x2
    | 3, _, _ => exact F.x3
    | 4, _, _ => exact F.x4
    | 5, _, _ => exact F.x5
    | 6, _, _ => exact F.x6
    | 7, _, _ => exact F.x7
    | 8, _, _ => exact F.x8
    | 9, _, _ => exact F.x9
    | 10, _, _ => exact F.x10
    | 11, _, _ => exact F.x11
    | 12, _, _ => exact F.x12
    | 13, _, _ => exact F.x13
    | 0, q1, _ => omega
    | n + 14, _, q2 => omega
  fx_part := fun c j h => by
    unfold ix_x_part at h
    split at h
    · cases h
      exact ⟨F.exf, rfl, (by decide : (fieldsOf 1).Nodup)⟩
    · cases h
  hs_MostError := fun c b h => by
    unfold hs_MostError at h
    split at h
    · cases h
      exact F.xm
    · cases h

def gK {α : Type} (us _its ws : List α) : List α := match ws with
  | [a, b, c, d] => us ++ [d, c, b, a]
  | ws => us ++ ws
theorem gK_rel {vs ds zs : List V} {us its ws : List Value} (r1 : Vals vs us) (_r2 : Vals ds its) (r3 : Vals zs ws) : Vals (gK vs ds zs) (gK us its ws) := by
  cases r3 with
  | nil => exact r1.append .nil
  | cons a1 r3 => cases r3 with
    | nil => exact r1.append (.cons a1 .nil)
    | cons a2 r3 => cases r3 with
      | nil => exact r1.append (.cons a1 (.cons a2 .nil))
      | cons a3 r3 => cases r3 with
        | nil => exact r1.append (.cons a1 (.cons a2 (.cons a3 .nil)))
        | cons a4 r3 => cases r3 with
          | nil => exact r1.append (.cons a4 (.cons a3 (.cons a2 (.cons a1 .nil))))
          | cons a5 r3 => exact r1.append (.cons a1 (.cons a2 (.cons a3 (.cons a4 (.cons a5 r3)))))
theorem body_ok {P : Program} {w : World} {K : PySem.W.Frag} {h : Heap} {mg : Str → Option Value} {CS : List Addr} {CM fE fI c Pt : Addr} (X : K.In h) (N : h.Ns mainGlobals mg) (F : FactsC K CS CM fE) (hx : ExT P K mg (CAof CS 1) fI "part") {base : Heap} (TB : TabB base mg c Pt) {f : Addr} {A : Around} {outer : List Env} {s : Shared} {H : Hp} {E : XK} (hr : Room 8 (A.deeper (envOfC "law" (defScope s_law) s.heap.objs.size f (.ref c)))) (hgu : (A.deeper (envOfC "law" (defScope s_law) s.heap.objs.size f (.ref c))).guards = some [])
    (tk : Takes (cxOf (L2.CX P w) P w K mg base n_law "law" (defScope s_law) f (.ref c) A outer s H E) (WD E)) :
    DSs (cxOf (L2.CX P w) P w K mg base n_law "law" (defScope s_law) f (.ref c) A outer s H E) (ctx K (CAof CS) [(Pt, lamQ)]) (WD E) (defBody s_law) b_law := by
  have T : Txt P K mg (CAof CS) CM fI [(Pt, lamQ)] := txt X N F hx
  have Cis_name : Cal P w K mg base (ctx K (CAof CS) [(Pt, lamQ)]) "is_name" false 1 2 c_is_name [] := calOf (ps := ["value"]) X N F.d_is_name (fun f fd D => D.binds (ps := ["value"]) fun _ _ _ _ _ _ us hl => match us, hl with | [_], _ => rfl) fun f fd D => ok_is_name T  D
  have Cis_listed : Cal P w K mg base (ctx K (CAof CS) [(Pt, lamQ)]) "is_listed" false 1 2 c_is_listed [] := calOf (ps := ["value"]) X N F.d_is_listed (fun f fd D => D.binds (ps := ["value"]) fun _ _ _ _ _ _ us hl => match us, hl with | [_], _ => rfl) fun f fd D => ok_is_listed T  D
  have Cascends : Cal P w K mg base (ctx K (CAof CS) [(Pt, lamQ)]) "ascends" false 1 2 c_ascends [] := calOf (ps := ["some"]) X N F.d_ascends (fun f fd D => D.binds (ps := ["some"]) fun _ _ _ _ _ _ us hl => match us, hl with | [_], _ => rfl) fun f fd D => ok_ascends T  D
  have Care_unlike : Cal P w K mg base (ctx K (CAof CS) [(Pt, lamQ)]) "are_unlike" false 1 3 c_are_unlike [] := calOf (ps := ["some"]) X N F.d_are_unlike (fun f fd D => D.binds (ps := ["some"]) fun _ _ _ _ _ _ us hl => match us, hl with | [_], _ => rfl) fun f fd D => ok_are_unlike T Cascends D
  have Care_names : Cal P w K mg base (ctx K (CAof CS) [(Pt, lamQ)]) "are_names" false 3 4 c_are_names [] := calOf (ps := ["value", "least", "most"]) X N F.d_are_names (fun f fd D => D.binds (ps := ["value", "least", "most"]) fun _ _ _ _ _ _ us hl => match us, hl with | [_, _, _], _ => rfl) fun f fd D => ok_are_names T Cis_listed Cis_name Care_unlike D
  have C_law_pen : Cal P w K mg base (ctx K (CAof CS) [(Pt, lamQ)]) "_law_pen" false 1 2 c__law_pen [] := calOf (ps := ["script"]) X N F.d__law_pen (fun f fd D => D.binds (ps := ["script"]) fun _ _ _ _ _ _ us hl => match us, hl with | [_], _ => rfl) fun f fd D => ok__law_pen T  D
  have C_law_draw : Cal P w K mg base (ctx K (CAof CS) [(Pt, lamQ)]) "_law_draw" true 2 2 c__law_draw [] := calOf (ps := ["pen", "many"]) X N F.d__law_draw (fun f fd D => D.binds (ps := ["pen", "many"]) fun _ _ _ _ _ _ us hl => match us, hl with | [_, _], _ => rfl) fun f fd D => ok__law_draw T  D
  have C_law_pick : Cal P w K mg base (ctx K (CAof CS) [(Pt, lamQ)]) "_law_pick" true 2 3 c__law_pick [] := calOf (ps := ["pen", "some"]) X N F.d__law_pick (fun f fd D => D.binds (ps := ["pen", "some"]) fun _ _ _ _ _ _ us hl => match us, hl with | [_, _], _ => rfl) fun f fd D => ok__law_pick T C_law_draw D
  have C_law_mixed : Cal P w K mg base (ctx K (CAof CS) [(Pt, lamQ)]) "_law_mixed" true 2 3 c__law_mixed [] := calOf (ps := ["pen", "some"]) X N F.d__law_mixed (fun f fd D => D.binds (ps := ["pen", "some"]) fun _ _ _ _ _ _ us hl => match us, hl with | [_, _], _ => rfl) fun f fd D => ok__law_mixed T C_law_draw D
  have C_law_name : Cal P w K mg base (ctx K (CAof CS) [(Pt, lamQ)]) "_law_name" true 2 4 c__law_name [] := calOf (ps := ["pen", "most"]) X N F.d__law_name (fun f fd D => D.binds (ps := ["pen", "most"]) fun _ _ _ _ _ _ us hl => match us, hl with | [_, _], _ => rfl) fun f fd D => ok__law_name T C_law_draw C_law_pick D
  obtain ⟨fI0, fd0, e0, M0, ke, FD⟩ := F.init
  have G0 := ok_Table___init__ (base := base) (w := w) T Cis_name Care_names FD
  have mgT : mg "Table" = some (.ref ((ctx K (CAof CS) [(Pt, lamQ)]).C 0)) := T.g_Table
  obtain ⟨ds5, r5, b5⟩ := FD.binds1 (ps := ["self", "name", "columns", "unique", "kind"]) 5 2 (by simp) rfl fun _ _ _ _ _ _ _ us its h1 h2 => match us, its, h1, h2 with | [_, _, _, _, _], [_, _], _, _ => ⟨_, rfl, rfl⟩
  obtain ⟨ds3, r3, b3⟩ := FD.binds1 (ps := ["self", "name", "columns", "unique", "kind"]) 3 0 (by simp) rfl fun _ _ _ _ _ _ _ us its h1 h2 => match us, its, h1, h2 with | [_, _, _], [_, _], _, _ => ⟨_, rfl, rfl⟩
  have MK5 : Mak P w K mg base (ctx K (CAof CS) [(Pt, lamQ)]) "Table" 0 5 5 c_Table___init__ [] := ⟨⟨fI0, fd0, _, _, ds5, M0, G0, mgT, rfl, b5, r5, rfl, fun _ _ => .nil⟩⟩
  have MK3 : Mak P w K mg base (ctx K (CAof CS) [(Pt, lamQ)]) "Table" 0 5 5 c_Table___init__ [.tup [], .str "heap"] := ⟨⟨fI0, fd0, _, _, ds3, M0, G0, mgT, rfl, b3, r3, rfl, fun _ _ => .cons (.ktup ke .nil) (.cons (.str (by decide +kernel)) .nil)⟩⟩
  have CK : MakKw P w K mg base (ctx K (CAof CS) [(Pt, lamQ)]) "Table" 0 5 5 c_Table___init__ ["kind", "unique", "columns", "name"] permK := by
    obtain ⟨its, kb⟩ := FD.kbindsD (ps := ["self", "name", "columns", "unique", "kind"]) 1 ["kind", "unique", "columns", "name"] gK (by simp) gK_rel fun _ _ _ _ _ _ _ us its ws h1 h2 h3 => match us, its, ws, h1, h2, h3 with | [_], [_, _], [_, _, _, _], _, _, _ => ⟨_, rfl, rfl⟩
    refine ⟨⟨fI0, fd0, _, _, _, M0, G0, mgT, rfl, kb, fun H S v zs ds hl r => ?_⟩⟩
    cases r with
    | nil => cases hl
    | cons a1 r => cases r with
      | nil => cases hl
      | cons a2 r => cases r with
        | nil => cases hl
        | cons a3 r => cases r with
          | nil => cases hl
          | cons a4 r => cases r with
            | nil => exact ⟨_, rfl, rfl, .cons a4 (.cons a3 (.cons a2 (.cons a1 .nil)))⟩
            | cons a5 r => simp at hl
  have OC : OwnC P w K mg base (ctx K (CAof CS) [(Pt, lamQ)]) [0] [0] 2 c_Table___eq__ := by
    obtain ⟨fd, FE⟩ := F.feq
    refine ⟨⟨fE, fd, _, ok_Table___eq__ T FE, FE.binds (ps := ["self", "other"]) fun _ _ _ _ _ _ us hl => match us, hl with | [_, _], _ => rfl, fun n hn => ?_, T.ins, fun n d t hn hd ht => ?_⟩⟩
    · have e := in0 hn
      subst e
      exact F.oe
    · have e := in0 hn
      subst e
      cases d <;> simp only [tyVal, Option.some.injEq, reduceCtorEq] at ht
      all_goals (try subst ht)
      all_goals first | exact F.nf_NoneType | exact F.nf_bool | exact F.nf_int | exact F.nf_str | exact F.nf_tuple | exact F.nf_list | exact F.nf_dict | (have e2 := in0 hd; subst e2; exact F.nf_own) | cases hd
  obtain ⟨gh, fdh, ah, FH⟩ := F.d__law_heard.ex
  have LH : Hrd K mg := ⟨⟨gh, fdh, FH, PySem.W.mg_of X N ah, FH.binds (ps := ["ask"]) fun _ _ _ _ _ _ us hl => match us, hl with | [_], _ => rfl⟩⟩
  exact dss_law T C_law_pen C_law_name C_law_draw C_law_mixed C_law_pick MK5 MK3 CK OC LH TB hr hgu tk
end K01

set_option Elab.async false
set_option linter.all false
set_option maxRecDepth 100000
set_option maxHeartbeats 4000000
/-! K01D: the end of law k01. Printed by k01d.py. -/
namespace K01
open PySem PySem.Spec PyProof.Rows L2 DL LamX
theorem exm_of {K : PySem.W.Frag} {C S : Addr} (h1 : PySem.W.subIn K (.ref S) (.type "BaseException") = some true) (h2 : PySem.W.isClsIn K S = true) (h3 : PySem.W.typeIn K (.ref S) = some (.type "type")) (h4 : PySem.W.subIn K (.ref C) (.ref S) = some true) :
    PySem.W.exmOne K (.ref C) (.ref S) = some true := by
  have e1 : (PySem.W.subIn K (.ref S) (.type "BaseException") == some true) = true := by rw [h1] <;> rfl
  have e2 : ((PySem.W.clsIn K S).isSome && PySem.W.typeIn K (.ref S) == some (.type "type")) = true := by
    have h2' : (PySem.W.clsIn K S).isSome = true := h2
    rw [h2', h3] <;> rfl
  show (if (PySem.W.subIn K (.ref S) (.type "BaseException") == some true) = true then (if ((PySem.W.clsIn K S).isSome && PySem.W.typeIn K (.ref S) == some (.type "type")) = true then PySem.W.subIn K (.ref C) (.ref S) else none) else none) = some true
  rw [if_pos e1, if_pos e2]
  exact h4
def XEv (f : Str) (q1 q2 q3 q4 q5 : Pos) : Prop := ∀ env : Env, ∃ pl : Sem Bool, eval (.Call (.Attribute (.Call (.Name "super" q1) [] [] q2) "__init__" q3) [.Name f q4] [] q5) env = (do
      let ov ← attributeBase (.Call (.Name "super" q1) [] [] q2) "__init__" env (eval (.Call (.Name "super" q1) [] [] q2) env)
      standAt q3.atName
      let (m, first) ← holding [ov] (getMethod ov "__init__" pl)
      callWith q5 m first (backTo q5 (starEach [.Name f q4] env)) [])
theorem all_mk {l : PySem.W.OpenLaw} {w : World} {P : Program} {K : PySem.W.Frag} {h : Heap} {mg : Str → Option Value} {fa : Addr} (hP : l.prog = P) (X : K.In h) (N : h.Ns mainGlobals mg) (hfa : mg "law" = some (.ref fa))
    {clc cclX dcX pmX ctX ocX dcl ocl kVl dcl2 pml ctl ocfE kVfE dcfE pmfE cdfE ctfE ocfT kVfT dcfT pmfT cdfT ctfT ocg_is_name kVg_is_name dcg_is_name pmg_is_name cdg_is_name ctg_is_name ocg_is_listed kVg_is_listed dcg_is_listed pmg_is_listed cdg_is_listed ctg_is_listed ocg_ascends kVg_ascends dcg_ascends pmg_ascends cdg_ascends ctg_ascends ocg_are_unlike kVg_are_unlike dcg_are_unlike pmg_are_unlike cdg_are_unlike ctg_are_unlike ocg_are_names kVg_are_names dcg_are_names pmg_are_names cdg_are_names ctg_are_names ocg__law_pen kVg__law_pen dcg__law_pen pmg__law_pen cdg__law_pen ctg__law_pen ocg__law_draw kVg__law_draw dcg__law_draw pmg__law_draw cdg__law_draw ctg__law_draw ocg__law_pick kVg__law_pick dcg__law_pick pmg__law_pick cdg__law_pick ctg__law_pick ocg__law_mixed kVg__law_mixed dcg__law_mixed pmg__law_mixed cdg__law_mixed ctg__law_mixed ocg__law_heard kVg__law_heard dcg__law_heard pmg__law_heard cdg__law_heard ctg__law_heard ocg__law_name kVg__law_name dcg__law_name pmg__law_name cdg__law_name ctg__law_name : Value}
    {C0 C1 C2 C3 C4 C5 C6 C7 C8 C9 C10 C11 C12 C13 CM aK fE fT dT e0 fI cc cda NX gl cL Pt g_is_name g_is_listed g_ascends g_are_unlike g_are_names g__law_pen g__law_draw g__law_pick g__law_mixed g__law_heard g__law_name : Addr}
    {adK ddd edd ddX cldc cddX odX anX odl anl ddl odfE anfE odfT anfT odg_is_name ang_is_name odg_is_listed ang_is_listed odg_ascends ang_ascends odg_are_unlike ang_are_unlike odg_are_names ang_are_names odg__law_pen ang__law_pen odg__law_draw ang__law_draw odg__law_pick ang__law_pick odg__law_mixed ang__law_mixed odg__law_heard ang__law_heard odg__law_name ang__law_name : Option Addr}
    {itK itD itE vsX vsl : Array Value}
    {asK dsl esl cslc ccsX slX sll slo slfE slfT slg_is_name slg_is_listed slg_ascends slg_are_unlike slg_are_names slg__law_pen slg__law_draw slg__law_pick slg__law_mixed slg__law_heard slg__law_name : Array (Option Value)}
    {nK nD nE : Nat}
    {t1 t2 t3 tK1 tK2 tD tfX tfl tgl ttl : Tok}
    {nmX qX flX qlX fll : Str}
    {bsX bmX subX : List Value}
    {snX : List Str}
    {abX inl9 : Bool}
    {colX : Option Bool}
    {m0 m1 m2 m3 m5 : Option Value}
    {fgl txl : Int}
    {scX : Scope}
    {p1 p2 q1 q2 q3 q4 q5 q6 q7 q8 q9 q10 : Pos}
    (c0 : PySem.W.nsIn K mainGlobals "Table" = some (some (.ref C0)))
    (c1 : PySem.W.nsIn K mainGlobals "BadTable" = some (some (.ref C1)))
    (c2 : PySem.W.nsIn K mainGlobals "BadPlan" = some (some (.ref C2)))
    (c3 : PySem.W.nsIn K mainGlobals "BadWorld" = some (some (.ref C3)))
    (c4 : PySem.W.nsIn K mainGlobals "BadWeights" = some (some (.ref C4)))
    (c5 : PySem.W.nsIn K mainGlobals "BadSizes" = some (some (.ref C5)))
    (c6 : PySem.W.nsIn K mainGlobals "BadColours" = some (some (.ref C6)))
    (c7 : PySem.W.nsIn K mainGlobals "BadQuery" = some (some (.ref C7)))
    (c8 : PySem.W.nsIn K mainGlobals "Unlike" = some (some (.ref C8)))
    (c9 : PySem.W.nsIn K mainGlobals "BadName" = some (some (.ref C9)))
    (c10 : PySem.W.nsIn K mainGlobals "BadChoice" = some (some (.ref C10)))
    (c11 : PySem.W.nsIn K mainGlobals "BadNumber" = some (some (.ref C11)))
    (c12 : PySem.W.nsIn K mainGlobals "BadStep" = some (some (.ref C12)))
    (c13 : PySem.W.nsIn K mainGlobals "TooMany" = some (some (.ref C13)))
    (cM : PySem.W.nsIn K mainGlobals "MostError" = some (some (.ref CM)))
    (z_len : PySem.W.nsIn K mainGlobals "len" = some none)
    (z_all : PySem.W.nsIn K mainGlobals "all" = some none)
    (z_sorted : PySem.W.nsIn K mainGlobals "sorted" = some none)
    (z_abs : PySem.W.nsIn K mainGlobals "abs" = some none)
    (z_zip : PySem.W.nsIn K mainGlobals "zip" = some none)
    (z_range : PySem.W.nsIn K mainGlobals "range" = some none)
    (z_repr : PySem.W.nsIn K mainGlobals "repr" = some none)
    (z_isinstance : PySem.W.nsIn K mainGlobals "isinstance" = some none)
    (z_str : PySem.W.nsIn K mainGlobals "str" = some none)
    (z_list : PySem.W.nsIn K mainGlobals "list" = some none)
    (z_tuple : PySem.W.nsIn K mainGlobals "tuple" = some none)
    (z_int : PySem.W.nsIn K mainGlobals "int" = some none)
    (z_super : PySem.W.nsIn K mainGlobals "super" = some none)
    (v1 : PySem.W.nsIn K mainGlobals "LETTERS" = some (some (.str "abcdefghijklmnopqrstuvwxyz" t1)))
    (v2 : PySem.W.nsIn K mainGlobals "MOST_SIGNS" = some (some (.int 8 t2)))
    (v3 : PySem.W.nsIn K mainGlobals "MOST_COLUMNS" = some (some (.int 5 t3)))
    (v4 : PySem.W.nsIn K mainGlobals "KINDS" = some (some (.ref aK)))
    (v4l : K.lookup aK = some ⟨.type "tuple", adK, .seq itK nK, asK⟩)
    (v4i : itK.toList = [.str "heap" tK1, .str "set" tK2])
    (pg : PySem.W.plainGet K C0 Str.empty = true)
    (hd : PySem.W.hasDictIn K C0 = true)
    (po : PySem.W.plainOver K C0 = true)
    (sa : PySem.W.findIn K (.ref C0) "__setattr__" = some (some (.builtin "object.__setattr__")))
    (ha : PySem.W.findIn K (.ref C0) "__class__" = some (some (.builtin "object.__class__")))
    (hn : PySem.W.specialIn K (.builtin "object.__class__") "__get__" = some (some (.builtin "getset_descriptor.__get__")))
    (ht : PySem.W.takesIn K (.builtin "object.__class__") = some true)
    (hm : PySem.W.mroIn K C0 (.type "object") = some true)
    (n_name : PySem.W.findIn K (.ref C0) "name" = some none)
    (n_columns : PySem.W.findIn K (.ref C0) "columns" = some none)
    (n_unique : PySem.W.findIn K (.ref C0) "unique" = some none)
    (n_kind : PySem.W.findIn K (.ref C0) "kind" = some none)
    (k_str : PySem.W.kitOne K (.ref C0) (.type "str") = some false)
    (k_list : PySem.W.kitOne K (.ref C0) (.type "list") = some false)
    (k_tuple : PySem.W.kitOne K (.ref C0) (.type "tuple") = some false)
    (k_own : PySem.W.kitOne K (.ref C0) (.ref C0) = some true)
    (k_NoneType0 : PySem.W.kitOne K (.type "NoneType") (.ref C0) = some false)
    (nf_NoneType : PySem.W.notFirst K C0 (.type "NoneType") = true)
    (k_bool0 : PySem.W.kitOne K (.type "bool") (.ref C0) = some false)
    (nf_bool : PySem.W.notFirst K C0 (.type "bool") = true)
    (k_int0 : PySem.W.kitOne K (.type "int") (.ref C0) = some false)
    (nf_int : PySem.W.notFirst K C0 (.type "int") = true)
    (k_str0 : PySem.W.kitOne K (.type "str") (.ref C0) = some false)
    (nf_str : PySem.W.notFirst K C0 (.type "str") = true)
    (k_tuple0 : PySem.W.kitOne K (.type "tuple") (.ref C0) = some false)
    (nf_tuple : PySem.W.notFirst K C0 (.type "tuple") = true)
    (k_list0 : PySem.W.kitOne K (.type "list") (.ref C0) = some false)
    (nf_list : PySem.W.notFirst K C0 (.type "list") = true)
    (k_dict0 : PySem.W.kitOne K (.type "dict") (.ref C0) = some false)
    (nf_dict : PySem.W.notFirst K C0 (.type "dict") = true)
    (nf_own : PySem.W.notFirst K C0 (.ref C0) = true)
    (eqf : PySem.W.findIn K (.ref C0) "__eq__" = some (some (.ref fE)))
    (eqi : PySem.W.isFn K (.ref fE) = true)
    (nef : PySem.W.findIn K (.ref C0) "__ne__" = some (some (.builtin "object.__ne__")))
    (lfE : K.lookup fE = some ⟨ocfE, odfE, .func (PySem.W.fnOf "__eq__" "Table.__eq__" (defArgs s_Table___eq__) (defBody s_Table___eq__) (defScope s_Table___eq__) .none kVfE dcfE pmfE anfE cdfE ctfE), slfE⟩)
    (cofE : PySem.W.codeIn K cdfE "Table.__eq__" = true)
    (kpfE : PySem.W.keepIn K (.ref fE) = true)
    (mk : PySem.W.makesIn K C0 = true)
    (inf : PySem.W.findIn K (.ref C0) "__init__" = some (some (.ref fT)))
    (ini : PySem.W.isFn K (.ref fT) = true)
    (ink : PySem.W.keepIn K (.ref C0) = true)
    (lfT : K.lookup fT = some ⟨ocfT, odfT, .func (PySem.W.fnOf "__init__" "Table.__init__" (defArgs s_Table___init__) (defBody s_Table___init__) (defScope s_Table___init__) (.ref dT) kVfT dcfT pmfT anfT cdfT ctfT), slfT⟩)
    (cofT : PySem.W.codeIn K cdfT "Table.__init__" = true)
    (kpfT : PySem.W.keepIn K (.ref fT) = true)
    (dl : K.lookup dT = some ⟨dcl, ddd, .seq itD nD, dsl⟩)
    (dli : itD = [.ref e0, .str "heap" tD].toArray)
    (el : K.lookup e0 = some ⟨.type "tuple", edd, .seq itE nE, esl⟩)
    (eli : itE.toList = [])
    (xg : PySem.W.findIn K (.ref C1) "__getattribute__" = some (some (.builtin "BaseException.__getattribute__")))
    (xk : PySem.W.findIn K (.ref C1) "__getattr__" = some none)
    (xs : PySem.W.subIn K (.ref C1) (.type "BaseException") = some true)
    (xd : PySem.W.hasDictIn K C1 = true)
    (xa : PySem.W.findIn K (.ref C1) "__class__" = some (some (.builtin "object.__class__")))
    (xo : PySem.W.mroIn K C1 (.type "object") = some true)
    (xn : PySem.W.findIn K (.ref C1) "part" = some none)
    (x1 : PySem.W.kitOne K (.ref C1) (.ref C1) = some true)
    (x2 : PySem.W.kitOne K (.ref C1) (.ref C2) = some false)
    (x3 : PySem.W.kitOne K (.ref C1) (.ref C3) = some false)
    (x4 : PySem.W.kitOne K (.ref C1) (.ref C4) = some false)
    (x5 : PySem.W.kitOne K (.ref C1) (.ref C5) = some false)
    (x6 : PySem.W.kitOne K (.ref C1) (.ref C6) = some false)
    (x7 : PySem.W.kitOne K (.ref C1) (.ref C7) = some false)
    (x8 : PySem.W.kitOne K (.ref C1) (.ref C8) = some false)
    (x9 : PySem.W.kitOne K (.ref C1) (.ref C9) = some false)
    (x10 : PySem.W.kitOne K (.ref C1) (.ref C10) = some false)
    (x11 : PySem.W.kitOne K (.ref C1) (.ref C11) = some false)
    (x12 : PySem.W.kitOne K (.ref C1) (.ref C12) = some false)
    (x13 : PySem.W.kitOne K (.ref C1) (.ref C13) = some false)
    (xm0 : PySem.W.subIn K (.ref CM) (.type "BaseException") = some true)
    (xm1 : PySem.W.isClsIn K CM = true)
    (xm2 : PySem.W.typeIn K (.ref CM) = some (.type "type"))
    (xm3 : PySem.W.subIn K (.ref C1) (.ref CM) = some true)
    (xL : K.lookup C1 = some (excClassObj nmX qX C1 NX bsX bmX true snX subX abX colX ddX m0 m1 m2 m3 m5 "ValueError.__new__"))
    (xv : HandSPX.refsVE bmX = true)
    (xsa : PySem.W.findIn K (.ref C1) "__setattr__" = some (some (.builtin "object.__setattr__")))
    (xi : PySem.W.findIn K (.ref C1) "__init__" = some (some (.ref fI)))
    (xt : PySem.W.typeIn K (.ref fI) = some (.type "function"))
    (xkC : PySem.W.keepIn K (.ref C1) = true)
    (xty : PySem.W.typeIn K (.ref C1) = some (.type "type"))
    (xve : PySem.W.subIn K (.ref C1) (.type "ValueError") = some true)
    (xsu : PySem.W.ks_superIn K C1 C1 "__init__" = some (some (.builtin "ValueError.__init__")))
    (xmr : PySem.W.mroIn K C1 (.ref C1) = some true)
    (xop : PySem.W.nsIn K cStatics "thirdparty.any" = some none)
    (xtop : (P.main.scope.names.lookup ("super" : Str)).isSome = false)
    (xfn : K.lookup fI = some ⟨ocX, odX, .func (PySem.W.ksFn "__init__" qlX (xA "part" p1 p2) (xB "part" q1 q2 q3 q4 q5 q6 q7 q8 q9 q10) scX .none .none dcX pmX anX (.ref cda) ctX cc), slX⟩)
    (xcc : K.lookup cc = some ⟨clc, cldc, .cell (some (.ref C1)), cslc⟩)
    (xcd : K.lookup cda = some ⟨cclX, cddX, .fields vsX, ccsX⟩)
    (xv2 : vsX[2]? = some (.str flX tfX))
    (xfl : ((P.main.file : Str) == flX) = true)
    (xco : PySem.W.codeIn K (.ref cda) qlX = true)
    (xsc : XSc scX "part")
    (a_is_name : PySem.W.nsIn K mainGlobals "is_name" = some (some (.ref g_is_name)))
    (lg_is_name : K.lookup g_is_name = some ⟨ocg_is_name, odg_is_name, .func (PySem.W.fnOf "is_name" "is_name" (defArgs s_is_name) (defBody s_is_name) (defScope s_is_name) .none kVg_is_name dcg_is_name pmg_is_name ang_is_name cdg_is_name ctg_is_name), slg_is_name⟩)
    (cog_is_name : PySem.W.codeIn K cdg_is_name "is_name" = true)
    (kpg_is_name : PySem.W.keepIn K (.ref g_is_name) = true)
    (a_is_listed : PySem.W.nsIn K mainGlobals "is_listed" = some (some (.ref g_is_listed)))
    (lg_is_listed : K.lookup g_is_listed = some ⟨ocg_is_listed, odg_is_listed, .func (PySem.W.fnOf "is_listed" "is_listed" (defArgs s_is_listed) (defBody s_is_listed) (defScope s_is_listed) .none kVg_is_listed dcg_is_listed pmg_is_listed ang_is_listed cdg_is_listed ctg_is_listed), slg_is_listed⟩)
    (cog_is_listed : PySem.W.codeIn K cdg_is_listed "is_listed" = true)
    (kpg_is_listed : PySem.W.keepIn K (.ref g_is_listed) = true)
    (a_ascends : PySem.W.nsIn K mainGlobals "ascends" = some (some (.ref g_ascends)))
    (lg_ascends : K.lookup g_ascends = some ⟨ocg_ascends, odg_ascends, .func (PySem.W.fnOf "ascends" "ascends" (defArgs s_ascends) (defBody s_ascends) (defScope s_ascends) .none kVg_ascends dcg_ascends pmg_ascends ang_ascends cdg_ascends ctg_ascends), slg_ascends⟩)
    (cog_ascends : PySem.W.codeIn K cdg_ascends "ascends" = true)
    (kpg_ascends : PySem.W.keepIn K (.ref g_ascends) = true)
    (a_are_unlike : PySem.W.nsIn K mainGlobals "are_unlike" = some (some (.ref g_are_unlike)))
    (lg_are_unlike : K.lookup g_are_unlike = some ⟨ocg_are_unlike, odg_are_unlike, .func (PySem.W.fnOf "are_unlike" "are_unlike" (defArgs s_are_unlike) (defBody s_are_unlike) (defScope s_are_unlike) .none kVg_are_unlike dcg_are_unlike pmg_are_unlike ang_are_unlike cdg_are_unlike ctg_are_unlike), slg_are_unlike⟩)
    (cog_are_unlike : PySem.W.codeIn K cdg_are_unlike "are_unlike" = true)
    (kpg_are_unlike : PySem.W.keepIn K (.ref g_are_unlike) = true)
    (a_are_names : PySem.W.nsIn K mainGlobals "are_names" = some (some (.ref g_are_names)))
    (lg_are_names : K.lookup g_are_names = some ⟨ocg_are_names, odg_are_names, .func (PySem.W.fnOf "are_names" "are_names" (defArgs s_are_names) (defBody s_are_names) (defScope s_are_names) .none kVg_are_names dcg_are_names pmg_are_names ang_are_names cdg_are_names ctg_are_names), slg_are_names⟩)
    (cog_are_names : PySem.W.codeIn K cdg_are_names "are_names" = true)
    (kpg_are_names : PySem.W.keepIn K (.ref g_are_names) = true)
    (a__law_pen : PySem.W.nsIn K mainGlobals "_law_pen" = some (some (.ref g__law_pen)))
    (lg__law_pen : K.lookup g__law_pen = some ⟨ocg__law_pen, odg__law_pen, .func (PySem.W.fnOf "_law_pen" "_law_pen" (defArgs s__law_pen) (defBody s__law_pen) (defScope s__law_pen) .none kVg__law_pen dcg__law_pen pmg__law_pen ang__law_pen cdg__law_pen ctg__law_pen), slg__law_pen⟩)
    (cog__law_pen : PySem.W.codeIn K cdg__law_pen "_law_pen" = true)
    (kpg__law_pen : PySem.W.keepIn K (.ref g__law_pen) = true)
    (a__law_draw : PySem.W.nsIn K mainGlobals "_law_draw" = some (some (.ref g__law_draw)))
    (lg__law_draw : K.lookup g__law_draw = some ⟨ocg__law_draw, odg__law_draw, .func (PySem.W.fnOf "_law_draw" "_law_draw" (defArgs s__law_draw) (defBody s__law_draw) (defScope s__law_draw) .none kVg__law_draw dcg__law_draw pmg__law_draw ang__law_draw cdg__law_draw ctg__law_draw), slg__law_draw⟩)
    (cog__law_draw : PySem.W.codeIn K cdg__law_draw "_law_draw" = true)
    (kpg__law_draw : PySem.W.keepIn K (.ref g__law_draw) = true)
    (a__law_pick : PySem.W.nsIn K mainGlobals "_law_pick" = some (some (.ref g__law_pick)))
    (lg__law_pick : K.lookup g__law_pick = some ⟨ocg__law_pick, odg__law_pick, .func (PySem.W.fnOf "_law_pick" "_law_pick" (defArgs s__law_pick) (defBody s__law_pick) (defScope s__law_pick) .none kVg__law_pick dcg__law_pick pmg__law_pick ang__law_pick cdg__law_pick ctg__law_pick), slg__law_pick⟩)
    (cog__law_pick : PySem.W.codeIn K cdg__law_pick "_law_pick" = true)
    (kpg__law_pick : PySem.W.keepIn K (.ref g__law_pick) = true)
    (a__law_mixed : PySem.W.nsIn K mainGlobals "_law_mixed" = some (some (.ref g__law_mixed)))
    (lg__law_mixed : K.lookup g__law_mixed = some ⟨ocg__law_mixed, odg__law_mixed, .func (PySem.W.fnOf "_law_mixed" "_law_mixed" (defArgs s__law_mixed) (defBody s__law_mixed) (defScope s__law_mixed) .none kVg__law_mixed dcg__law_mixed pmg__law_mixed ang__law_mixed cdg__law_mixed ctg__law_mixed), slg__law_mixed⟩)
    (cog__law_mixed : PySem.W.codeIn K cdg__law_mixed "_law_mixed" = true)
    (kpg__law_mixed : PySem.W.keepIn K (.ref g__law_mixed) = true)
    (a__law_heard : PySem.W.nsIn K mainGlobals "_law_heard" = some (some (.ref g__law_heard)))
    (lg__law_heard : K.lookup g__law_heard = some ⟨ocg__law_heard, odg__law_heard, .func (PySem.W.fnOf "_law_heard" "_law_heard" (defArgs s__law_heard) (defBody s__law_heard) (defScope s__law_heard) .none kVg__law_heard dcg__law_heard pmg__law_heard ang__law_heard cdg__law_heard ctg__law_heard), slg__law_heard⟩)
    (cog__law_heard : PySem.W.codeIn K cdg__law_heard "_law_heard" = true)
    (kpg__law_heard : PySem.W.keepIn K (.ref g__law_heard) = true)
    (a__law_name : PySem.W.nsIn K mainGlobals "_law_name" = some (some (.ref g__law_name)))
    (lg__law_name : K.lookup g__law_name = some ⟨ocg__law_name, odg__law_name, .func (PySem.W.fnOf "_law_name" "_law_name" (defArgs s__law_name) (defBody s__law_name) (defScope s__law_name) .none kVg__law_name dcg__law_name pmg__law_name ang__law_name cdg__law_name ctg__law_name), slg__law_name⟩)
    (cog__law_name : PySem.W.codeIn K cdg__law_name "_law_name" = true)
    (kpg__law_name : PySem.W.keepIn K (.ref g__law_name) = true)
    (a_law : PySem.W.nsIn K mainGlobals "law" = some (some (.ref gl)))
    (ll : K.lookup gl = some ⟨ocl, odl, .func (PySem.W.fnOf "law" "law" (defArgs s_law) (defBody s_law) (defScope s_law) .none kVl dcl2 pml anl (.ref cL) ctl), sll⟩)
    (lc : PySem.W.codeIn K (.ref cL) "law" = true)
    (lo : K.lookup cL = some ⟨.type "code", ddl, .fields vsl, slo⟩)
    (l11 : vsl[11]? = some (.ref Pt))
    (l18 : vsl.getD 18 .none = .str fll tfl)
    (l7 : vsl.getD 7 .none = .int fgl tgl)
    (l9 : vsl.getD 9 .none = .bool inl9)
    (l10 : vsl.getD 10 .none = .int txl ttl)
    (lP : K.lookup Pt = none)
    (xev : XEv "part" q1 q2 q3 q4 q5)
    : ∃ (c Pt : Addr) (G : DL.Ctx), LawD K "law" s_law fa c Pt ∧ G.K = K ∧ G.T.map (·.1) = [Pt] ∧ ∀ (base : Heap) (s : Shared) (H : Hp) (E : XK), K.In base → base.Ns mainGlobals mg → TabB base mg c Pt →
        Room 8 (callerA.deeper (envOfC "law" (defScope s_law) s.heap.objs.size fa (.ref c))) → (callerA.deeper (envOfC "law" (defScope s_law) s.heap.objs.size fa (.ref c))).guards = some [] →
        Takes (cxOf (L2.CX l.prog w) l.prog w K mg base n_law "law" (defScope s_law) fa (.ref c) callerA [] s H E) (WD E) →
        DSs (cxOf (L2.CX l.prog w) l.prog w K mg base n_law "law" (defScope s_law) fa (.ref c) callerA [] s H E) G (WD E) (defBody s_law) b_law := by
  subst hP
  have e := hfa.symm.trans (PySem.W.mg_of X N a_law)
  cases e
  have hx : ExT l.prog K mg C1 fI "part" :=
    { cls := ⟨nmX, qX, NX, bsX, bmX, snX, subX, abX, colX, ddX, m0, m1, m2, m3, m5, xL, xv⟩, sa := xsa, ga := xg, gg := xk, noN := xn, iC := xi, tC := xt, kC := xkC, exC := xs, tyC := xty, hdC := xd, ve := xve, su := xsu, mr := xmr, op := xop, sp := PySem.W.mg_none_of X N z_super, top := xtop,
      fn := ⟨cc, cda, clc, cldc, cslc, cclX, cddX, vsX, ccsX, flX, tfX, ocX, odX, qlX, dcX, pmX, anX, ctX, slX, scX, p1, p2, q1, q2, q3, q4, q5, q6, q7, q8, q9, q10, xcc, xcd, xv2, xfl, xfn, xco, xsc, xev, fun s a b => .of_eq rfl⟩ }
  let CS : List Addr := [C0, C1, C2, C3, C4, C5, C6, C7, C8, C9, C10, C11, C12, C13]
  have F : FactsC K CS CM fE :=
    { len := rfl, c0 := c0, c1 := c1, c2 := c2, c3 := c3, c4 := c4, c5 := c5, c6 := c6, c7 := c7, c8 := c8, c9 := c9, c10 := c10, c11 := c11, c12 := c12, c13 := c13, cM := cM, z_len := z_len, z_all := z_all, z_sorted := z_sorted, z_abs := z_abs, z_zip := z_zip, z_range := z_range, z_repr := z_repr, z_isinstance := z_isinstance, z_str := z_str, z_list := z_list, z_tuple := z_tuple, z_int := z_int, z_super := z_super, v1 := ⟨_, v1⟩, v2 := ⟨_, v2⟩, v3 := ⟨_, v3⟩, v4 := ⟨aK, v4, ⟨_, itK, nK, v4l, rfl, rfl, by rw [← Array.length_toList, v4i]; show 2 ≤ sizeLine; decide, by rw [v4i]; exact .cons ⟨tK1, rfl⟩ (.cons ⟨tK2, rfl⟩ .nil)⟩⟩,
      ins := ⟨⟨pg, hd, po, sa⟩, ha, hn, ht, hm⟩, n_name := n_name, n_columns := n_columns, n_unique := n_unique, n_kind := n_kind, k_str := k_str, k_list := k_list, k_tuple := k_tuple, k_own := k_own, k_NoneType0 := k_NoneType0, nf_NoneType := nf_NoneType, k_bool0 := k_bool0, nf_bool := nf_bool, k_int0 := k_int0, nf_int := nf_int, k_str0 := k_str0, nf_str := nf_str, k_tuple0 := k_tuple0, nf_tuple := nf_tuple, k_list0 := k_list0, nf_list := nf_list, k_dict0 := k_dict0, nf_dict := nf_dict, nf_own := nf_own, oe := ⟨eqf, eqi, nef, hm⟩, feq := ⟨_, fun_mk lfE cofE kpfE⟩,
      init := ⟨fT, _, e0, ⟨mk, inf, ini, ink⟩, ⟨_, itE, nE, el, rfl, rfl, by rw [← Array.length_toList, eli]; show 0 ≤ sizeLine; decide, by rw [eli]; exact .nil⟩, ⟨⟨_, _, _, _, _, _, _, _, _, _, rfl, lfT, cofT, .inr ⟨by simp, dT, _, _, nD, rfl, dl, by rw [dli], .cons rfl (.cons ⟨tD, rfl⟩ .nil)⟩, .inl rfl⟩, kpfT⟩⟩,
      exc := ⟨xg, xk, xs, xd, xa, hn, ht, xo⟩, exf := ⟨xg, xk, xs, xd, xn⟩, x1 := x1, x2 := x2, x3 := x3, x4 := x4, x5 := x5, x6 := x6, x7 := x7, x8 := x8, x9 := x9, x10 := x10, x11 := x11, x12 := x12, x13 := x13, xm := exm_of xm0 xm1 xm2 xm3, d_is_name := defK a_is_name lg_is_name cog_is_name kpg_is_name, d_is_listed := defK a_is_listed lg_is_listed cog_is_listed kpg_is_listed, d_ascends := defK a_ascends lg_ascends cog_ascends kpg_ascends, d_are_unlike := defK a_are_unlike lg_are_unlike cog_are_unlike kpg_are_unlike, d_are_names := defK a_are_names lg_are_names cog_are_names kpg_are_names, d__law_pen := defK a__law_pen lg__law_pen cog__law_pen kpg__law_pen, d__law_draw := defK a__law_draw lg__law_draw cog__law_draw kpg__law_draw, d__law_pick := defK a__law_pick lg__law_pick cog__law_pick kpg__law_pick, d__law_mixed := defK a__law_mixed lg__law_mixed cog__law_mixed kpg__law_mixed, d__law_heard := defK a__law_heard lg__law_heard cog__law_heard kpg__law_heard, d__law_name := defK a__law_name lg__law_name cog__law_name kpg__law_name }
  refine ⟨cL, Pt, ctx K (CAof CS) [(Pt, lamQ)], ⟨⟨_, _, _, _, _, _, _, _, _, vsl, _, _, _, _, _, _, _, _, ll, lc, lo, l11, l18, l7, l9, l10⟩, lP⟩, rfl, rfl, fun base s H E KB NB TB hr hgu tk => ?_⟩
  exact body_ok X N F hx TB hr hgu tk
end K01

set_option Elab.async false
set_option linter.all false
set_option maxRecDepth 100000
set_option maxHeartbeats 1000000
/-! K01M1: the plain maths of the drawing helpers. -/
namespace K01
open PySem DL
/-- the pen: the script's cells, the turn (at most T), the rest -/
def PenOk (T : Nat) (pen : D) : Prop := ∃ (cells : List Int) (t q : Int), pen = .lst [.lst (cells.map D.int), .int t, .int q] ∧ 0 ≤ t ∧ t ≤ T
theorem PenOk.mono {T T' : Nat} {pen : D} (h : PenOk T pen) (l : T ≤ T') : PenOk T' pen := by
  obtain ⟨c, t, q, e, h1, h2⟩ := h
  exact ⟨c, t, q, e, h1, by omega⟩
section
variable (cells : List Int) (t q m : Int)
def penD : D := .lst [.lst (cells.map D.int), .int t, .int q]
def drE (a b c d : Sl) (pen : D) : EV := [some (pen, .p), some (.int m, .s), a, b, c, d]
theorem dr1 : mT (mO2 (cmpP fun i j => decide (j < i)) (.ex (mO2 ixP (.pl 0) (.ex (mC (.int 2))))) (.ex (mC (.int 0)))) (drE m a b c d (penD cells t q)) = .ok (decide (0 < q)) (drE m a b c d (penD cells t q)) := rfl
theorem dr2 : (mO2 ixP (.pl 0) (.ex (mC (.int 1)))) (drE m a b c d (penD cells t q)) = .ok (.int t) false (drE m a b c d (penD cells t q)) := rfl
theorem dr3 : mSub 0 (mC (.int 1)) (mO2 addP (.pl 3) (.ex (mC (.int 1)))) (drE m a (some (.int t, .s)) c d (penD cells t q)) = .nx (drE m a (some (.int t, .s)) c d (penD cells (t + 1) q)) := rfl
variable (a b c d : Sl) (p : D)
theorem dr4 : (mO2 addP (.ex (mO2 mulP (.ex (mC (.int 93241))) (.pl 3))) (.ex (mC (.int 11117)))) (drE m a (some (.int t, .s)) c d p) = .ok (.int (93241 * t + 11117)) false (drE m a (some (.int t, .s)) c d p) := rfl
theorem eqD_nilL (xs : List Int) : eqD (.lst (xs.map D.int)) (.lst []) = decide (xs = []) := by
  cases xs <;> simp [eqD, eqL]
theorem depInts : ∀ xs : List Int, depL (xs.map D.int) = some 0
  | [] => rfl
  | x :: r => by simp [depL, depD, depInts r]
theorem okDepInts (xs : List Int) : okDep (.lst (xs.map D.int)) = true := by
  unfold okDep depD
  rw [depInts]
  rfl
theorem dr5 : mT (mO2 neP (.ex (mO2 ixP (.pl 0) (.ex (mC (.int 0))))) (.ex (mLst []))) (drE m a b c d (penD cells t q)) = .ok (!decide (cells = [])) (drE m a b c d (penD cells t q)) := by
  show (match (liftP (neP (.lst (cells.map D.int)) (.lst [])) (drE m a b c d (penD cells t q))) with
    | .ok d _ e => match d with
      | .bl b => RB.ok b e
      | _ => .bad
    | .exc c fs e => .exc c fs e
    | .bad => .bad) = _
  unfold neP
  rw [okDepInts, eqD_nilL]
  rfl
theorem dr7 : mT (mO2 ltP (.pl 3) (.ex (mO1 lenP (.ex (mO2 ixP (.pl 0) (.ex (mC (.int 0)))))))) (drE m a (some (.int t, .s)) c d (penD cells t' q)) = .ok (decide (t < cells.length)) (drE m a (some (.int t, .s)) c d (penD cells t' q)) := by
  show RB.ok (decide (t < (cells.map D.int).length)) _ = _
  rw [List.length_map]
theorem dr8 (v : Int) : mT (mO2 (cmpP fun i j => decide (j ≤ i)) (.ex (mO1 absP (.pl 4))) (.ex (mO2 powP (.ex (mC (.int 10))) (.ex (mC (.int 18)))))) (drE m a b (some (.int v, .s)) d p) = .ok (decide ((10 : Int) ^ 18 ≤ if v < 0 then -v else v)) (drE m a b (some (.int v, .s)) d p) := by
  rfl
theorem dr6 (ht : cells ≠ []) : ∃ v, (mO2 ixP (.ex (mO2 ixP (.pl 0) (.ex (mC (.int 0))))) (.ex (mO2 modP (.ex (mO1 int1P (.pl 3))) (.ex (mO1 lenP (.ex (mO2 ixP (.pl 0) (.ex (mC (.int 0)))))))))) (drE m a (some (.int t, .s)) c d (penD cells t' q)) = .ok (.int v) false (drE m a (some (.int t, .s)) c d (penD cells t' q)) := by
  have hl : (0 : Int) < cells.length := by
    have : cells.length ≠ 0 := fun e => ht (List.eq_nil_of_length_eq_zero e)
    omega
  have h0 : 0 ≤ t.fmod cells.length := Int.fmod_nonneg_of_pos t hl
  have h1 : t.fmod cells.length < cells.length := Int.fmod_lt_of_pos t hl
  show ∃ v, (match (bindE (fun env => liftP (modP (.int t) (.int (cells.map D.int).length)) env) fun y => fun env => liftP (ixP (.lst (cells.map D.int)) y) env) (drE m a (some (.int t, .s)) c d (penD cells t' q)) with | r => r) = _
  rw [List.length_map]
  unfold bindE
  rw [modP_i (by omega)]
  show ∃ v, liftP ((L2.atI (cells.map D.int) (t.fmod cells.length)).map fun d => (d, false)) _ = _
  rw [atI_nat h0 (by rw [List.length_map]; exact h1), List.getElem?_map]
  have h2 : (t.fmod cells.length).toNat < cells.length := by omega
  rw [List.getElem?_eq_getElem h2]
  exact ⟨_, rfl⟩
def mixA (v t : Int) : Int := ((v.fmod 2147483549 + 93241 * t + 11117) ^ 5).fmod 2147483629
def mixB (x t : Int) : Int := ((x * (2 * t + 7019) + 36013 * t * t + 93241) ^ 3).fmod 2147483587
theorem dr9 (v : Int) (h0 : 0 ≤ t) (h1 : t ≤ 1000000) : (mO2 modP (.ex (mO1 int1P (.ex (mO2 powP (.ex (mO2 addP (.ex (mO2 addP (.ex (mO2 modP (.ex (mO1 int1P (.pl 4))) (.ex (mC (.int 2147483549))))) (.ex (mO2 mulP (.ex (mC (.int 93241))) (.pl 3))))) (.ex (mC (.int 11117))))) (.ex (mC (.int 5))))))) (.ex (mC (.int 2147483629)))) (drE m a (some (.int t, .s)) (some (.int v, .s)) d p) = .ok (.int (mixA v t)) false (drE m a (some (.int t, .s)) (some (.int v, .s)) d p) := by
  have e0 : 0 ≤ v.fmod 2147483549 := Int.fmod_nonneg_of_pos v (by decide)
  have e1 : v.fmod 2147483549 < 2147483549 := Int.fmod_lt_of_pos v (by decide)
  have hp := powP_i (a := v.fmod 2147483549 + 93241 * t + 11117) (k := 5) (by omega) (by decide)
  show (match bindE (fun env => bindE (fun env => liftP (powP (.int (v.fmod 2147483549 + 93241 * t + 11117)) (.int (5 : Nat))) env) (fun y env => liftP (int1P y) env) env) (fun y env => liftP (modP y (.int 2147483629)) env) (drE m a (some (.int t, .s)) (some (.int v, .s)) d p) with | r => r) = _
  unfold bindE
  rw [hp]
  rfl
theorem dr10 (x : Int) (c : Sl) (h0 : 0 ≤ t) (h1 : t ≤ 1000000) (x0 : 0 ≤ x) (x1 : x < 2147483629) : (mO2 modP (.ex (mO1 int1P (.ex (mO2 powP (.ex (mO2 addP (.ex (mO2 addP (.ex (mO2 mulP (.pl 5) (.ex (mO2 addP (.ex (mO2 mulP (.ex (mC (.int 2))) (.pl 3))) (.ex (mC (.int 7019))))))) (.ex (mO2 mulP (.ex (mO2 mulP (.ex (mC (.int 36013))) (.pl 3))) (.pl 3))))) (.ex (mC (.int 93241))))) (.ex (mC (.int 3))))))) (.ex (mC (.int 2147483587)))) (drE m a (some (.int t, .s)) c (some (.int x, .s)) p) = .ok (.int (mixB x t)) false (drE m a (some (.int t, .s)) c (some (.int x, .s)) p) := by
  have b1 : x * (2 * t + 7019) ≤ 2147483629 * (2 * 1000000 + 7019) := Int.mul_le_mul (by omega) (by omega) (by omega) (by decide)
  have b0 : 0 ≤ x * (2 * t + 7019) := Int.mul_nonneg x0 (by omega)
  have b2 : 36013 * t * t ≤ (36013 * 1000000) * 1000000 := Int.mul_le_mul (by omega) h1 h0 (by decide)
  have b3 : 0 ≤ 36013 * t * t := Int.mul_nonneg (by omega) h0
  have hp := powP_i (a := x * (2 * t + 7019) + 36013 * t * t + 93241) (k := 3) (by omega) (by decide)
  have m1 := mulP_i (a := x) (b := 2 * t + 7019) ⟨by omega, by omega⟩
  have m2 := mulP_i (a := 36013 * t) (b := t) ⟨by omega, by omega⟩
  exact ev_xx (ev_x (ev_xx (ev_xx (ev_xx (ev_px (t := .s) rfl (ev_xx (ev_xp (t := .s) rfl rfl rfl) rfl rfl) rfl m1) (ev_xp (t := .s) (ev_xp (t := .s) rfl rfl rfl) rfl m2) rfl) rfl rfl) rfl hp) rfl) rfl (modP_i (by decide))
theorem dr11 (x : Int) (b c : Sl) (h : 0 < m) : (mO2 modP (.ex (mO1 int1P (.ex (mO2 divP (.pl 5) (.ex (mC (.int 64))))))) (.pl 1)) (drE m a b c (some (.int x, .s)) p) = .ok (.int ((x.fdiv 64).fmod m)) false (drE m a b c (some (.int x, .s)) p) :=
  ev_xp (t := .s) (ev_x (ev_px (t := .s) rfl rfl rfl rfl) rfl) rfl (modP_i (by omega))
end
theorem fm {a m : Int} (h : 0 < m) : 0 ≤ a.fmod m ∧ a.fmod m < m := ⟨Int.fmod_nonneg_of_pos a h, Int.fmod_lt_of_pos a h⟩
/-- a draw: what stands above nothing -/
theorem draw_ok {T : Nat} {pen : D} {m : Int} (h : PenOk T pen) (hT : T ≤ 1000000) (h0 : 0 < m) (h1 : m < 1073741824) : ∃ r pen', c__law_draw [pen, .int m] = .ok (.int r) false (some pen') ∧ 0 ≤ r ∧ r < m ∧ PenOk (T + 1) pen' := by
  obtain ⟨cells, t, q, rfl, t0, t1⟩ := h
  have hst : c__law_draw [.lst [.lst (cells.map D.int), .int t, .int q], .int m] = (match b__law_draw (drE m none none none none (penD cells t q)) with
    | .nx e => .ok .non false (finE true e)
    | .rt d o e => .ok d o (finE true e)
    | .exc c fs e => .exc c fs (finE true e)
    | _ => .bad) := rfl
  rw [hst]
  unfold b__law_draw
  by_cases hq : 0 < q
  · have e1 := dr1 (a := none) (b := none) (c := none) (d := none) cells t q m
    rw [decide_eq_true hq] at e1
    have dv : mO2 divP (.pl 2) (.pl 1) (drE m (some (.int q, .s)) none none none (penD cells t q)) = .ok (.int (q.fdiv m)) false (drE m (some (.int q, .s)) none none none (penD cells t q)) := ev_pp (t := .s) (t' := .s) rfl rfl (divP_i (by omega) (by omega))
    have s1 : mSet 2 (mO1 int1P (.ex (mO2 ixP (.pl 0) (.ex (mC (.int 2)))))) (drE m none none none none (penD cells t q)) = .nx (drE m (some (.int q, .s)) none none none (penD cells t q)) := rfl
    have s2 : mSub 0 (mC (.int 2)) (mO2 divP (.pl 2) (.pl 1)) (drE m (some (.int q, .s)) none none none (penD cells t q)) = .nx (drE m (some (.int q, .s)) none none none (penD cells t (q.fdiv m))) := by
      unfold mSub bindS; rw [dv]; rfl
    have s3 : mRet (mO2 modP (.ex (mO1 int1P (.pl 2))) (.pl 1)) (drE m (some (.int q, .s)) none none none (penD cells t (q.fdiv m))) = .rt (.int (q.fmod m)) false (drE m (some (.int q, .s)) none none none (penD cells t (q.fdiv m))) :=
      ev_ret (ev_xp (t := .s) (ev_p (t := .s) rfl rfl) rfl (modP_i (by omega)))
    rw [ev_seqR ((ev_ifT e1).trans ((ev_seq s1).trans ((ev_seq s2).trans s3)))]
    exact ⟨_, _, rfl, (fm h0).1, (fm h0).2, ⟨cells, t, q.fdiv m, rfl, t0, by omega⟩⟩
  · have e1 := dr1 (a := none) (b := none) (c := none) (d := none) cells t q m
    rw [decide_eq_false hq] at e1
    rw [ev_seq (ev_ifN e1)]
    let pen1 := penD cells (t + 1) q
    let T1 : Sl := some (.int t, .s)
    have s1 : mSet 3 (mO2 ixP (.pl 0) (.ex (mC (.int 1)))) (drE m none none none none (penD cells t q)) = .nx (drE m none T1 none none (penD cells t q)) := rfl
    have s2 : mSub 0 (mC (.int 1)) (mO2 addP (.pl 3) (.ex (mC (.int 1)))) (drE m none T1 none none (penD cells t q)) = .nx (drE m none T1 none none pen1) := rfl
    have s3 : mSet 4 (mO2 addP (.ex (mO2 mulP (.ex (mC (.int 93241))) (.pl 3))) (.ex (mC (.int 11117)))) (drE m none T1 none none pen1) = .nx (drE m none T1 (some (.int (93241 * t + 11117), .s)) none pen1) := rfl
    have s4 : ∃ v, (mIfS (mT (mO2 neP (.ex (mO2 ixP (.pl 0) (.ex (mC (.int 0))))) (.ex (mLst [])))) (mSet 4 (mO2 ixP (.ex (mO2 ixP (.pl 0) (.ex (mC (.int 0))))) (.ex (mO2 modP (.ex (mO1 int1P (.pl 3))) (.ex (mO1 lenP (.ex (mO2 ixP (.pl 0) (.ex (mC (.int 0))))))))))) (mNext)) (drE m none T1 (some (.int (93241 * t + 11117), .s)) none pen1) = .nx (drE m none T1 (some (.int v, .s)) none pen1) := by
      have e5 := dr5 cells (t + 1) q m none T1 (some (.int (93241 * t + 11117), .s)) none
      by_cases hc : cells = []
      · rw [decide_eq_true hc] at e5
        exact ⟨_, ev_ifN e5⟩
      · rw [decide_eq_false hc] at e5
        obtain ⟨v, e6⟩ := dr6 (t' := t + 1) cells t q m none (some (.int (93241 * t + 11117), .s)) none hc
        exact ⟨v, (ev_ifT e5).trans (ev_set e6 rfl)⟩
    obtain ⟨v, s4⟩ := s4
    have ep : PenOk (T + 1) pen1 := ⟨cells, t + 1, q, rfl, by omega, by omega⟩
    rw [ev_seq s1, ev_seq s2, ev_seq s3, ev_seq s4]
    have e7 := dr7 (t' := t + 1) cells t q m none (some (.int v, .s)) none
    have e8 := dr8 m none T1 none pen1 v
    have tail : ∃ r pen', (match mSeq (mSet 5 (mO2 modP (.ex (mO1 int1P (.ex (mO2 powP (.ex (mO2 addP (.ex (mO2 addP (.ex (mO2 modP (.ex (mO1 int1P (.pl 4))) (.ex (mC (.int 2147483549))))) (.ex (mO2 mulP (.ex (mC (.int 93241))) (.pl 3))))) (.ex (mC (.int 11117))))) (.ex (mC (.int 5))))))) (.ex (mC (.int 2147483629)))))
    (mSeq (mSet 5 (mO2 modP (.ex (mO1 int1P (.ex (mO2 powP (.ex (mO2 addP (.ex (mO2 addP (.ex (mO2 mulP (.pl 5) (.ex (mO2 addP (.ex (mO2 mulP (.ex (mC (.int 2))) (.pl 3))) (.ex (mC (.int 7019))))))) (.ex (mO2 mulP (.ex (mO2 mulP (.ex (mC (.int 36013))) (.pl 3))) (.pl 3))))) (.ex (mC (.int 93241))))) (.ex (mC (.int 3))))))) (.ex (mC (.int 2147483587)))))
    (mRet (mO2 modP (.ex (mO1 int1P (.ex (mO2 divP (.pl 5) (.ex (mC (.int 64))))))) (.pl 1)))) (drE m none T1 (some (.int v, .s)) none pen1) with
      | .nx e => RC.ok .non false (finE true e)
      | .rt d o e => .ok d o (finE true e)
      | .exc c fs e => .exc c fs (finE true e)
      | _ => .bad) = .ok (.int r) false (some pen') ∧ 0 ≤ r ∧ r < m ∧ PenOk (T + 1) pen' := by
      have e9 := dr9 (p := pen1) t m none none v t0 (by omega)
      have x := fm (a := (v.fmod 2147483549 + 93241 * t + 11117) ^ 5) (m := 2147483629) (by decide)
      have e10 := dr10 t m none pen1 (mixA v t) (some (.int v, .s)) t0 (by omega) x.1 x.2
      have e11 := dr11 m none pen1 (mixB (mixA v t) t) T1 (some (.int v, .s)) h0
      rw [ev_seq (ev_set e9 rfl)]
      rw [ev_seq (b := mRet _) (e := drE m none T1 (some (.int v, .s)) (some (.int (mixB (mixA v t) t), .s)) pen1) (ev_set e10 rfl)]
      rw [ev_ret e11]
      exact ⟨_, _, rfl, (fm h0).1, (fm h0).2, ep⟩
    by_cases h7 : t < cells.length
    · rw [decide_eq_true h7] at e7
      by_cases h8 : (10 : Int) ^ 18 ≤ if v < 0 then -v else v
      · rw [decide_eq_true h8] at e8
        let R0 : Int := 2 * ((if v < 0 then -v else v) - 10 ^ 18) + (if decide (v < 0) then 1 else 0)
        have u1 : mSet 2 (mO2 addP (.ex (mO2 mulP (.ex (mC (.int 2))) (.ex (mO2 subP (.ex (mO1 absP (.pl 4))) (.ex (mO2 powP (.ex (mC (.int 10))) (.ex (mC (.int 18))))))))) (.ex (mO1 int1P (.ex (mO2 ltP (.pl 4) (.ex (mC (.int 0)))))))) (drE m none T1 (some (.int v, .s)) none pen1) = .nx (drE m (some (.int R0, .s)) T1 (some (.int v, .s)) none pen1) := rfl
        have dv : mO2 divP (.ex (mO1 int1P (.pl 2))) (.pl 1) (drE m (some (.int R0, .s)) T1 (some (.int v, .s)) none pen1) = .ok (.int (R0.fdiv m)) false (drE m (some (.int R0, .s)) T1 (some (.int v, .s)) none pen1) := ev_xp (t := .s) (ev_p (t := .s) rfl rfl) rfl (divP_i (by omega) (by omega))
        have u2 : mSub 0 (mC (.int 2)) (mO2 divP (.ex (mO1 int1P (.pl 2))) (.pl 1)) (drE m (some (.int R0, .s)) T1 (some (.int v, .s)) none pen1) = .nx (drE m (some (.int R0, .s)) T1 (some (.int v, .s)) none (penD cells (t + 1) (R0.fdiv m))) := by
          unfold mSub bindS; rw [dv]; rfl
        have u3 : mRet (mO2 modP (.ex (mO1 int1P (.pl 2))) (.pl 1)) (drE m (some (.int R0, .s)) T1 (some (.int v, .s)) none (penD cells (t + 1) (R0.fdiv m))) = .rt (.int (R0.fmod m)) false (drE m (some (.int R0, .s)) T1 (some (.int v, .s)) none (penD cells (t + 1) (R0.fdiv m))) :=
          ev_ret (ev_xp (t := .s) (ev_p (t := .s) rfl rfl) rfl (modP_i (by omega)))
        rw [ev_seqR ((ev_ifT ((ev_andT e7).trans e8)).trans ((ev_seq u1).trans ((ev_seq u2).trans u3)))]
        exact ⟨_, _, rfl, (fm h0).1, (fm h0).2, ⟨cells, t + 1, R0.fdiv m, rfl, by omega, by omega⟩⟩
      · rw [decide_eq_false h8] at e8
        rw [ev_seq (ev_ifN ((ev_andT e7).trans e8))]
        exact tail
    · rw [decide_eq_false h7] at e7
      rw [ev_seq (ev_ifN (ev_andF e7))]
      exact tail
end K01

set_option Elab.async false
set_option linter.all false
set_option maxRecDepth 100000
set_option maxHeartbeats 1000000
/-! K01M2: picks, names, mixings. -/
namespace K01
open PySem DL
/-- one of a list -/
theorem pick_ok {T : Nat} {pen : D} {xs : List D} (h : PenOk T pen) (hT : T ≤ 1000000) (h0 : xs ≠ []) (h1 : xs.length < 1073741824) : ∃ x pen', c__law_pick [pen, .lst xs] = .ok x false (some pen') ∧ x ∈ xs ∧ PenOk (T + 1) pen' := by
  have hl : (0 : Int) < xs.length := by
    have : xs.length ≠ 0 := fun e => h0 (List.eq_nil_of_length_eq_zero e)
    omega
  obtain ⟨r, pen', e, r0, r1, hp⟩ := draw_ok h hT hl (by omega)
  have hr : r.toNat < xs.length := by omega
  refine ⟨xs[r.toNat], pen', ?_, List.getElem_mem hr, hp⟩
  have z : b__law_pick [some (pen, .p), some (.lst xs, .s)] = .rt xs[r.toNat] false [some (pen', .p), some (.lst xs, .s)] :=
    ev_ret (ev_px (t := .s) rfl (ev_callIO (t := .p) (dds := []) (x := pen) rfl (ev_cons (ev_p (t := .s) rfl rfl) ev_nil) rfl (by decide) e) rfl (ixP_l r0 (List.getElem?_eq_getElem hr)))
  show (match b__law_pick [some (pen, .p), some (.lst xs, .s)] with
    | .nx e => RC.ok .non false (finE true e)
    | .rt d o e => .ok d o (finE true e)
    | .exc c fs e => .exc c fs (finE true e)
    | _ => .bad) = _
  rw [z]
  rfl
def abc : Str := "abcdefghijklmnopqrstuvwxyz"
/-- a letter -/
abbrev Ltr (c : Nat) : Prop := 97 ≤ c ∧ c ≤ 122
theorem abc_ltr : ∀ c ∈ abc.cps.toList, Ltr c := by
  have : abc.cps.toList.all (fun c => decide (97 ≤ c ∧ c ≤ 122)) = true := by decide +kernel
  intro c hc
  exact of_decide_eq_true (List.all_eq_true.mp this c hc)
theorem pickS_ok {T : Nat} {pen : D} (h : PenOk T pen) (hT : T ≤ 1000000) : ∃ c pen', c__law_pick [pen, .str abc] = .ok (.str ⟨#[c]⟩) false (some pen') ∧ Ltr c ∧ PenOk (T + 1) pen' := by
  obtain ⟨r, pen', e, r0, r1, hp⟩ := draw_ok (m := 26) h hT (by decide) (by decide)
  have hr : r.toNat < abc.cps.toList.length := by
    have : abc.cps.toList.length = 26 := by decide +kernel
    omega
  refine ⟨abc.cps.toList[r.toNat], pen', ?_, abc_ltr _ (List.getElem_mem hr), hp⟩
  have hi : ixP (.str abc) (.int r) = some (.str ⟨#[abc.cps.toList[r.toNat]]⟩, false) := by
    show (L2.atI abc.cps.toList r).map (fun c => (D.str ⟨#[c]⟩, false)) = _
    rw [atI_nat r0 (by omega), List.getElem?_eq_getElem hr]
    rfl
  have hl : lenP (.str abc) = some (.int 26, false) := rfl
  have z : b__law_pick [some (pen, .p), some (.str abc, .s)] = .rt (.str ⟨#[abc.cps.toList[r.toNat]]⟩) false [some (pen', .p), some (.str abc, .s)] :=
    ev_ret (ev_px (t := .s) rfl (ev_callIO (t := .p) (dds := []) (x := pen) rfl (ev_cons (ev_p (t := .s) rfl hl) ev_nil) rfl (by decide) e) rfl hi)
  show (match b__law_pick [some (pen, .p), some (.str abc, .s)] with
    | .nx e => RC.ok .non false (finE true e)
    | .rt d o e => .ok d o (finE true e)
    | .exc c fs e => .exc c fs (finE true e)
    | _ => .bad) = _
  rw [z]
  rfl
/-! ### names -/
theorem join_single : ∀ cs : List Nat, Str.join "" (cs.map fun c => (⟨#[c]⟩ : Str)) = ⟨cs.toArray⟩
  | [] => rfl
  | [c] => rfl
  | c :: d :: r => by
    have ih := join_single (d :: r)
    show (⟨#[c]⟩ : Str) ++ "" ++ Str.join "" ((d :: r).map fun c => (⟨#[c]⟩ : Str)) = _
    rw [ih]
    show Str.mk (#[c] ++ #[] ++ (d :: r).toArray) = _
    simp
theorem strsD_map : ∀ cs : List Nat, strsD (cs.map fun c => D.str ⟨#[c]⟩) = some (cs.map fun c => (⟨#[c]⟩ : Str))
  | [] => rfl
  | c :: r => by simp [strsD, strsD_map r]
/-- the letters of a name, drawn -/
theorem nm_loop {m : Sl} : ∀ (ds : List D) (hd : ∀ d ∈ ds, ∃ i, d = .int i) (T : Nat) (pen : D) (acc : List Nat) (z : Sl) (hz : freeE [z] 0 = true), PenOk T pen → T + ds.length ≤ 1000000 →
    ∃ cs pen', lcE (.nm 2) [2] mYes (mCallIO c__law_pick 0 [mC (.str abc)] []) ds (acc.map fun c => D.str ⟨#[c]⟩) [some (pen, .p), m, z] = .ok (.lst ((acc ++ cs).map fun c => D.str ⟨#[c]⟩)) true [some (pen', .p), m, none] ∧ cs.length = ds.length ∧ (∀ c ∈ cs, Ltr c) ∧ PenOk (T + ds.length) pen'
  | [], _, T, pen, acc, z, hz, hp, hT => ⟨[], pen, by rw [List.append_nil]; rfl, rfl, by simp, hp⟩
  | d :: r, hd, T, pen, acc, z, hz, hp, hT => by
    obtain ⟨i, rfl⟩ := hd d List.mem_cons_self
    rw [List.length_cons] at hT
    obtain ⟨c, pen1, e1, hc, hp1⟩ := pickS_ok hp (by omega)
    have hcall : mCallIO c__law_pick 0 [mC (.str abc)] [] [some (pen, .p), m, some (.int i, .s)] = .ok (.str ⟨#[c]⟩) false [some (pen1, .p), m, some (.int i, .s)] :=
      ev_callIO (t := .p) (dds := []) (x := pen) rfl (ev_cons rfl ev_nil) rfl (by decide) e1
    obtain ⟨cs, pen2, e2, hl, hcs, hp2⟩ := nm_loop r (fun d h => hd d (List.mem_cons_of_mem _ h)) (T + 1) pen1 (acc ++ [c]) (some (.int i, .s)) rfl hp1 (by omega)
    refine ⟨c :: cs, pen2, ?_, by simp [hl], fun x hx => ?_, by rw [List.length_cons]; exact hp2.mono (by omega)⟩
    · have st : lcE (.nm 2) [2] mYes (mCallIO c__law_pick 0 [mC (.str abc)] []) (.int i :: r) (acc.map fun c => D.str ⟨#[c]⟩) [some (pen, .p), m, z] = (match mCallIO c__law_pick 0 [mC (.str abc)] [] [some (pen, .p), m, some (.int i, .s)] with
        | .ok d' _ e2 => lcE (.nm 2) [2] mYes (mCallIO c__law_pick 0 [mC (.str abc)] []) r ((acc.map fun c => D.str ⟨#[c]⟩) ++ [d']) e2
        | _ => .bad) := rfl
      rw [st, hcall]
      have ac : (acc.map fun c => D.str ⟨#[c]⟩) ++ [D.str ⟨#[c]⟩] = (acc ++ [c]).map fun c => D.str ⟨#[c]⟩ := by simp
      show lcE _ _ _ _ r ((acc.map fun c => D.str ⟨#[c]⟩) ++ [D.str ⟨#[c]⟩]) _ = _
      rw [ac, e2]
      simp
    · rcases List.mem_cons.mp hx with rfl | h
      · exact hc
      · exact hcs x h
/-- a name: 1 to 8 small letters -/
def NameOk (s : Str) : Prop := 1 ≤ s.cps.toList.length ∧ s.cps.toList.length ≤ 8 ∧ ∀ c ∈ s.cps.toList, Ltr c
theorem name_ok {T : Nat} {pen : D} (h : PenOk T pen) (hT : T + 10 ≤ 1000000) : ∃ s pen', c__law_name [pen, .int 8] = .ok (.str s) false (some pen') ∧ NameOk s ∧ PenOk (T + 9) pen' := by
  obtain ⟨r, pen1, e, r0, r1, hp1⟩ := draw_ok (m := 8) h (by omega) (by decide) (by decide)
  have hlen : (rngD 0 (1 + r)).length = (1 + r).toNat := by simp [rngD]
  obtain ⟨cs, pen2, e2, hl, hcs, hp2⟩ := nm_loop (m := some (.int 8, .s)) (rngD 0 (1 + r)) (fun d hd => by
    simp only [rngD, List.mem_map] at hd
    obtain ⟨k, _, rfl⟩ := hd
    exact ⟨_, rfl⟩) (T + 1) pen1 [] none rfl hp1 (by omega)
  have hdr : mO2 addP (.ex (mC (.int 1))) (.ex (mCallIO c__law_draw 0 [mV 1] [])) [some (pen, .p), some (.int 8, .s), none] = .ok (.int (1 + r)) false [some (pen1, .p), some (.int 8, .s), none] :=
    ev_xx rfl (ev_callIO (t := .p) (dds := []) (x := pen) rfl (ev_cons (ev_vs rfl) ev_nil) rfl (by decide) e) rfl
  have hlc : mLc (.nm 2) [2] (mRg1 (mO2 addP (.ex (mC (.int 1))) (.ex (mCallIO c__law_draw 0 [mV 1] [])))) (mYes) (mCallIO c__law_pick 0 [mC (.str abc)] []) [some (pen, .p), some (.int 8, .s), none] = .ok (.lst (cs.map fun c => D.str ⟨#[c]⟩)) true [some (pen2, .p), some (.int 8, .s), none] := by
    unfold mLc
    have rg : mRg1 (mO2 addP (.ex (mC (.int 1))) (.ex (mCallIO c__law_draw 0 [mV 1] []))) [some (pen, .p), some (.int 8, .s), none] = .ok (rngD 0 (1 + r)) [some (pen1, .p), some (.int 8, .s), none] := by
      unfold mRg1 bindI
      rw [hdr]
      have q : (decide (-(2 ^ 62) ≤ 1 + r) && decide (1 + r ≤ 16777216)) = true := by
        rw [decide_eq_true (by omega), decide_eq_true (by omega)]; rfl
      simp only [q]
    rw [show decide (0 ∉ [2]) = true from rfl, rg]
    exact e2
  have hj : joinP (.str "") (.lst (cs.map fun c => D.str ⟨#[c]⟩)) = some (.str ⟨cs.toArray⟩, false) := by
    show (match strsD (cs.map fun c => D.str ⟨#[c]⟩) with
      | some (ss : List Str) => match decide ((ss.map Str.length).sum + ss.length * Str.length "" ≤ 16777216) with
        | true => some (D.str (Txt.join "" ss), false)
        | false => none
      | none => none) = _
    rw [strsD_map]
    have q : decide (((cs.map fun c => (⟨#[c]⟩ : Str)).map Str.length).sum + (cs.map fun c => (⟨#[c]⟩ : Str)).length * Str.length "" ≤ 16777216) = true := by
      refine decide_eq_true ?_
      have : ∀ l : List Nat, ((l.map fun c => (⟨#[c]⟩ : Str)).map Str.length).sum = l.length := fun l => by
        induction l with
        | nil => rfl
        | cons a l ih => simp [Str.length] at ih ⊢; omega
      rw [this, show Str.length "" = 0 from rfl]
      omega
    simp only [q]
    rw [TL.join_eq, join_single]
  refine ⟨⟨cs.toArray⟩, pen2, ?_, ⟨by simp; omega, by simp; omega, by simpa using hcs⟩, hp2.mono (by omega)⟩
  have z : b__law_name [some (pen, .p), some (.int 8, .s), none] = .rt (.str ⟨cs.toArray⟩) false [some (pen2, .p), some (.int 8, .s), none] := by
    refine ev_ret ?_
    show (match mLc (.nm 2) [2] (mRg1 (mO2 addP (.ex (mC (.int 1))) (.ex (mCallIO c__law_draw 0 [mV 1] [])))) (mYes) (mCallIO c__law_pick 0 [mC (.str abc)] []) [some (pen, .p), some (.int 8, .s), none] with
      | .ok d _ e => liftP (joinP (.str "") d) e
      | .exc c fs e => .exc c fs e
      | .bad => .bad) = _
    rw [hlc]
    show liftP (joinP (.str "") _) _ = _
    rw [hj]
    rfl
  show (match b__law_name [some (pen, .p), some (.int 8, .s), none] with
    | .nx e => RC.ok .non false (finE true e)
    | .rt d o e => .ok d o (finE true e)
    | .exc c fs e => .exc c fs (finE true e)
    | _ => .bad) = _
  rw [z]
  rfl
end K01

set_option Elab.async false
set_option linter.all false
set_option maxRecDepth 100000
set_option maxHeartbeats 1000000
/-! K01M3: a list of texts mixed. -/
namespace K01
open PySem DL
def sl (ss : List Str) : List D := ss.map D.str
theorem depStrs : ∀ ss : List Str, depL (sl ss) = some 0
  | [] => rfl
  | x :: r => by
    have := depStrs r
    unfold sl at this
    simp [sl, depL, depD, this]
theorem okDepStrs (ss : List Str) : okDep (.lst (sl ss)) = true := by
  unfold okDep depD
  rw [depStrs]
  rfl
theorem okDepStrsT (ss : List Str) : okDep (.tup (sl ss)) = true := by
  unfold okDep depD
  rw [depStrs]
  rfl
theorem eqD_nilS (ss : List Str) : eqD (.lst (sl ss)) (.lst []) = decide (ss = []) := by
  cases ss <;> simp [eqD, eqL, sl]
theorem neP_nilS (ss : List Str) : neP (.lst (sl ss)) (.lst []) = some (.bl (!decide (ss = [])), false) := by
  unfold neP
  rw [okDepStrs, eqD_nilS]
  rfl
theorem erase_map : ∀ (l : List Str) (k : Nat), (l.map D.str).eraseIdx k = (l.eraseIdx k).map D.str
  | [], _ => rfl
  | x :: r, 0 => rfl
  | x :: r, k + 1 => by
    show D.str x :: (r.map D.str).eraseIdx k = D.str x :: (r.eraseIdx k).map D.str
    rw [erase_map r k]
theorem popAt_s {ss : List Str} {r : Int} (h0 : 0 ≤ r) (h1 : r < ss.length) (h2 : ss.length ≤ 1000000) : ∃ y, ss[r.toNat]? = some y ∧ popAtP (.lst (sl ss)) [.int r] = some (.lst (sl (ss.eraseIdx r.toNat)), .str y) := by
  have hr : r.toNat < ss.length := by omega
  refine ⟨ss[r.toNat], List.getElem?_eq_getElem hr, ?_⟩
  have e : seqIndex? r (sl ss).length = some r.toNat := by
    have hl : (sl ss).length = ss.length := by simp [sl]
    rw [hl]
    have hn : ¬ r < 0 := by omega
    simp [seqIndex?, hn, h0, h1]
  show (match decide (-(2 ^ 63) ≤ r) && decide (r < 2 ^ 63) with
    | true => match seqIndex? r (sl ss).length with
      | some k => ((sl ss)[k]?).map fun y => (D.lst ((sl ss).eraseIdx k), y)
      | none => none
    | false => none) = _
  rw [decide_eq_true (by omega : -(2 ^ 63) ≤ r), decide_eq_true (by omega : r < 2 ^ 63), e]
  show ((sl ss)[r.toNat]?).map _ = _
  have g : (sl ss)[r.toNat]? = some (.str ss[r.toNat]) := by
    unfold sl
    rw [List.getElem?_map, List.getElem?_eq_getElem hr]; rfl
  have er : (sl ss).eraseIdx r.toNat = sl (ss.eraseIdx r.toNat) := by
    unfold sl
    exact erase_map _ _
  rw [g, er]
  rfl
theorem append_s {ss : List Str} {y : Str} (h : ss.length ≤ 1000000) : appendP (.lst (sl ss)) [.str y] = some (.lst (sl (ss ++ [y])), .non) := by
  show (match decide ((sl ss).length < sizeLine) with | true => some (D.lst (sl ss ++ [D.str y]), D.non) | false => none) = _
  have : decide ((sl ss).length < sizeLine) = true := by
    refine decide_eq_true ?_
    have : (sl ss).length = ss.length := by simp [sl]
    rw [this, sizeLine_eq]; omega
  rw [this]
  simp [sl]
theorem perm_erase {y : Str} : ∀ {l : List Str} {k : Nat}, l[k]? = some y → (y :: l.eraseIdx k).Perm l
  | [], _, h => by simp at h
  | x :: r, 0, h => by
    have : x = y := by simpa using h
    subst this
    exact List.Perm.refl _
  | x :: r, k + 1, h => (List.Perm.swap x y _).trans (List.Perm.cons x (perm_erase (l := r) (k := k) (by simpa using h)))
abbrev mxT : MT := mT (mO2 neP (.pl 2) (.ex (mLst [])))
abbrev mxB : MS := mExpr (mMt 3 appendP [mMt 2 popAtP [mCallIO c__law_draw 0 [mO1 lenP (.pl 2)] []]])
theorem mx_loop {m : Sl} : ∀ (n fuel : Nat) (left found : List Str) (T : Nat) (pen : D), left.length = n → n < fuel → n ≤ 1000 → found.length + n ≤ 1000 → PenOk T pen → T + n ≤ 1000000 →
    ∃ res pen', whE mxT mxB fuel [some (pen, .p), m, some (.lst (sl left), .o), some (.lst (sl found), .o)] = .nx [some (pen', .p), m, some (.lst (sl []), .o), some (.lst (sl res), .o)] ∧ res.Perm (found ++ left) ∧ PenOk (T + n) pen'
  | n, 0, left, found, T, pen, hn, hf, _, _, _, _ => by omega
  | n, fuel + 1, left, found, T, pen, hn, hf, h1, h2, hp, hT => by
    have et : mxT [some (pen, .p), m, some (.lst (sl left), .o), some (.lst (sl found), .o)] = .ok (!decide (left = [])) [some (pen, .p), m, some (.lst (sl left), .o), some (.lst (sl found), .o)] :=
      ev_T (ev_px (t := .o) rfl rfl rfl (neP_nilS left))
    unfold whE
    cases left with
    | nil =>
      rw [et]
      exact ⟨found, pen, rfl, by simp, hp.mono (by omega)⟩
    | cons x r =>
      rw [et]
      have hlp : lenP (.lst (sl (x :: r))) = some (.int (x :: r).length, false) := by
        show some (D.int (sl (x :: r)).length, false) = _
        simp [sl]
      obtain ⟨q, pen1, e1, q0, q1, hp1⟩ := draw_ok (m := (x :: r).length) hp (by omega) (by simp) (by omega)
      obtain ⟨y, hy, ep⟩ := popAt_s (ss := x :: r) q0 q1 (by omega)
      have ec : mCallIO c__law_draw 0 [mO1 lenP (.pl 2)] [] [some (pen, .p), m, some (.lst (sl (x :: r)), .o), some (.lst (sl found), .o)] = .ok (.int q) false [some (pen1, .p), m, some (.lst (sl (x :: r)), .o), some (.lst (sl found), .o)] :=
        ev_callIO (t := .p) (dds := []) (x := pen) rfl (ev_cons (ev_p (t := .o) rfl hlp) ev_nil) rfl (by decide) e1
      have eb : mMt 2 popAtP [mCallIO c__law_draw 0 [mO1 lenP (.pl 2)] []] [some (pen, .p), m, some (.lst (sl (x :: r)), .o), some (.lst (sl found), .o)] = .ok (.str y) false [some (pen1, .p), m, some (.lst (sl ((x :: r).eraseIdx q.toNat)), .o), some (.lst (sl found), .o)] := by
        show bindL [mCallIO c__law_draw 0 [mO1 lenP (.pl 2)] []] _ _ = _
        rw [ev_bindL (ev_cons ec ev_nil)]
        show updM 2 (popAtP (.lst (sl (x :: r))) [.int q]) _ = _
        rw [ep]
        rfl
      have ea : mxB [some (pen, .p), m, some (.lst (sl (x :: r)), .o), some (.lst (sl found), .o)] = .nx [some (pen1, .p), m, some (.lst (sl ((x :: r).eraseIdx q.toNat)), .o), some (.lst (sl (found ++ [y])), .o)] := by
        refine ev_expr (d := .non) (o := false) ?_
        show bindL [mMt 2 popAtP [mCallIO c__law_draw 0 [mO1 lenP (.pl 2)] []]] _ _ = _
        rw [ev_bindL (ev_cons eb ev_nil)]
        show updM 3 (appendP (.lst (sl found)) [.str y]) _ = _
        rw [append_s (by omega)]
        rfl
      have hlen : ((x :: r).eraseIdx q.toNat).length = n - 1 := by
        rw [List.length_eraseIdx, if_pos (by omega)]; omega
      have hn1 : 1 ≤ n := by rw [← hn]; simp
      obtain ⟨res, pen2, e2, hperm, hp2⟩ := mx_loop (m := m) (n - 1) fuel ((x :: r).eraseIdx q.toNat) (found ++ [y]) (T + 1) pen1 hlen (by omega) (by omega) (by simp; omega) hp1 (by omega)
      refine ⟨res, pen2, ?_, hperm.trans ?_, hp2.mono (by omega)⟩
      · show (match mxB [some (pen, .p), m, some (.lst (sl (x :: r)), .o), some (.lst (sl found), .o)] with
          | .nx e' => whE mxT mxB fuel e'
          | .ct e' => whE mxT mxB fuel e'
          | .bk e' => .nx e'
          | .rt d o e' => .rt d o e'
          | .exc c fs e' => .exc c fs e'
          | .bad => .bad) = _
        rw [ea]
        exact e2
      · rw [List.append_assoc]
        exact List.Perm.append_left found (perm_erase hy)
theorem mixed_ok {T : Nat} {pen : D} {ss : List Str} (h : PenOk T pen) (hT : T + ss.length ≤ 1000000) (hl : ss.length < 60) : ∃ res pen', c__law_mixed [pen, .lst (sl ss)] = .ok (.lst (sl res)) true (some pen') ∧ res.Perm ss ∧ PenOk (T + ss.length) pen' := by
  obtain ⟨res, pen', e, hperm, hp⟩ := mx_loop (m := some (.lst (sl ss), .s)) ss.length 64 ss [] T pen rfl (by omega) (by omega) (by simp; omega) h hT
  refine ⟨res, pen', ?_, hperm, hp⟩
  have z : b__law_mixed [some (pen, .p), some (.lst (sl ss), .s), none, none] = .rt (.lst (sl res)) true [some (pen', .p), some (.lst (sl ss), .s), some (.lst (sl []), .o), none] := by
    unfold b__law_mixed
    have s1 : mPar 2 3 (mO1 listQ (.pl 1)) (mLst []) [some (pen, .p), some (.lst (sl ss), .s), none, none] = .nx [some (pen, .p), some (.lst (sl ss), .s), some (.lst (sl ss), .o), some (.lst (sl []), .o)] := rfl
    rw [ev_seq s1, ev_seq e]
    rfl
  show (match b__law_mixed [some (pen, .p), some (.lst (sl ss), .s), none, none] with
    | .nx e => RC.ok .non false (finE true e)
    | .rt d o e => .ok d o (finE true e)
    | .exc c fs e => .exc c fs (finE true e)
    | _ => .bad) = _
  rw [z]
  rfl
end K01

set_option Elab.async false
set_option linter.all false
set_option maxRecDepth 100000
set_option maxHeartbeats 1000000
/-! K01M4: what the Table's checks answer. -/
namespace K01
open PySem DL
theorem ltr_mem {c : Nat} (h : Ltr c) : c ∈ abc.cps.toList := by
  have key : (List.range 123).all (fun c => decide (97 ≤ c) == false || decide (c ∈ abc.cps.toList)) = true := by decide +kernel
  have := List.all_eq_true.mp key c (List.mem_range.mpr (by omega))
  rw [decide_eq_true h.1] at this
  simpa using this
theorem bls_true : ∀ n : Nat, bls (List.replicate n (.bl true)) = some (List.replicate n true)
  | 0 => rfl
  | n + 1 => by
    rw [List.replicate_succ, List.replicate_succ]
    simp [bls, bls_true n]
theorem all_true (n : Nat) : allP (.lst (List.replicate n (.bl true))) = some (.bl true, false) := by
  show (bls (List.replicate n (.bl true))).map _ = _
  rw [bls_true]
  simp
theorem nm_check {v : Sl} : ∀ (cs : List Nat) (n : Nat) (z : Sl), freeE [z] 0 = true → (∀ c ∈ cs, Ltr c) →
    lcE (.nm 1) [1] mYes (mO2 (inP false) (.pl 1) (.ex (mC (.str abc)))) (cs.map fun c => D.str ⟨#[c]⟩) (List.replicate n (D.bl true)) [v, z] = .ok (.lst (List.replicate (n + cs.length) (D.bl true))) true [v, none]
  | [], n, z, _, _ => rfl
  | c :: r, n, z, hz, h => by
    have e : mO2 (inP false) (.pl 1) (.ex (mC (.str abc))) [v, some (.str ⟨#[c]⟩, .s)] = .ok (.bl true) false [v, some (.str ⟨#[c]⟩, .s)] := by
      refine ev_px (t := .s) (t' := .s) (m2 := mC (.str abc)) (y := .str abc) (o2 := false) (e2 := [v, some (.str ⟨#[c]⟩, .s)]) rfl rfl rfl ?_
      show some (D.bl (xor false (decide (c ∈ abc.cps.toList))), false) = _
      rw [decide_eq_true (ltr_mem (h c List.mem_cons_self))]
      rfl
    show (match mO2 (inP false) (.pl 1) (.ex (mC (.str abc))) [v, some (.str ⟨#[c]⟩, .s)] with
      | .ok d' _ e2 => lcE (.nm 1) [1] mYes (mO2 (inP false) (.pl 1) (.ex (mC (.str abc)))) (r.map fun c => D.str ⟨#[c]⟩) (List.replicate n (D.bl true) ++ [d']) e2
      | _ => .bad) = _
    rw [e]
    show lcE _ _ _ _ (r.map fun c => D.str ⟨#[c]⟩) (List.replicate n (D.bl true) ++ [D.bl true]) _ = _
    rw [← List.replicate_succ', nm_check r (n + 1) _ rfl fun c hc => h c (List.mem_cons_of_mem _ hc)]
    rw [List.length_cons, show n + 1 + r.length = n + (r.length + 1) by omega]
theorem is_name_ok {s : Str} (h : NameOk s) : c_is_name [.str s] = .ok (.bl true) false none := by
  obtain ⟨h1, h2, h3⟩ := h
  have e3 : mLc (.nm 1) [1] (itSq (mV 0)) (mYes) (mO2 (inP false) (.pl 1) (.ex (mC (.str abc)))) [some (.str s, .s), none] = .ok (.lst (List.replicate (0 + s.cps.toList.length) (.bl true))) true [some (.str s, .s), none] := by
    unfold mLc
    rw [show decide (0 ∉ [1]) = true from rfl]
    exact nm_check s.cps.toList 0 none rfl h3
  have e2 : mCh (cmpP fun i j => decide (i ≤ j)) (cmpP fun i j => decide (i ≤ j)) (mC (.int 1)) (mO1 lenP (.pl 0)) (mC (.int 8)) [some (.str s, .s), none] = .ok (.bl true) false [some (.str s, .s), none] := by
    have hl : (s.length : Nat) = s.cps.toList.length := by simp [Str.length]
    show (match (some (D.bl (decide ((1 : Int) ≤ (s.length : Int))), false) : RP) with
      | some (.bl true, false) => liftP (some (.bl (decide ((s.length : Int) ≤ 8)), false)) [some (.str s, .s), none]
      | some (.bl false, false) => RE.ok (.bl false) false [some (.str s, .s), none]
      | _ => .bad) = _
    rw [decide_eq_true (by omega : (1 : Int) ≤ (s.length : Int)), decide_eq_true (by omega : (s.length : Int) ≤ 8)]
    rfl
  have z : b_is_name [some (.str s, .s), none] = .rt (.bl true) false [some (.str s, .s), none] := by
    refine ev_ret ?_
    show (match mAndV (mCh (cmpP fun i j => decide (i ≤ j)) (cmpP fun i j => decide (i ≤ j)) (mC (.int 1)) (mO1 lenP (.pl 0)) (mC (.int 8))) (mO1 allP (.ex (mLc (.nm 1) [1] (itSq (mV 0)) (mYes) (mO2 (inP false) (.pl 1) (.ex (mC (.str abc))))))) [some (.str s, .s), none] with | r => r) = _
    unfold mAndV blE bindE
    rw [e2]
    exact ev_x e3 (all_true _)
  show (match b_is_name [some (.str s, .s), none] with
    | .nx e => RC.ok .non false (finE false e)
    | .rt d o e => .ok d o (finE false e)
    | .exc c fs e => .exc c fs (finE false e)
    | _ => .bad) = _
  rw [z]
  rfl
end K01

set_option Elab.async false
set_option linter.all false
set_option maxRecDepth 100000
set_option maxHeartbeats 1000000
/-! K01M5: ascends, are_unlike, are_names. -/
namespace K01
open PySem DL
def prs : List Str → List D
  | a :: b :: r => .tup [.str a, .str b] :: prs (b :: r)
  | _ => []
theorem zip_prs : ∀ ss : List Str, zipD (sl ss) ((sl ss).drop 1) = prs ss
  | [] => rfl
  | [a] => rfl
  | a :: b :: r => by
    have ih := zip_prs (b :: r)
    show D.tup [.str a, .str b] :: zipD (sl (b :: r)) ((sl (b :: r)).drop 1) = _
    rw [ih]
    rfl
theorem cut1 (xs : List D) : cutD xs (some 1) none = xs.drop 1 := by
  unfold cutD
  have h : HT.sIx xs.length 0 (some 1) = min 1 xs.length := HT.sIx_nat _ _ 1
  have h2 : HT.sIx xs.length xs.length none = xs.length := rfl
  rw [h, h2]
  cases xs with
  | nil => rfl
  | cons x r =>
    rw [show min 1 (x :: r).length = 1 by simp]
    exact List.take_of_length_le (by simp)
theorem lt_of_sLe {a b : Str} (h : sLe a b = true) (n : a ≠ b) : strLt a b = true := by
  unfold strLt
  refine decide_eq_true ?_
  rcases Classical.em (a.cps.toList < b.cps.toList) with h1 | h1
  · exact h1
  · exact absurd (sLe_anti h (sLe_iff.mpr h1)) n
theorem asc_loop {v : Sl} : ∀ (ss : List Str) (n : Nat) (z1 z2 : Sl), freeE [z1] 0 = true → freeE [z2] 0 = true → ss.Pairwise (fun a b => sLe a b = true) → ss.Nodup →
    lcE (.tp [.nm 1, .nm 2]) [1, 2] mYes (mO2 ltP (.pl 1) (.pl 2)) (prs ss) (List.replicate n (D.bl true)) [v, z1, z2] = .ok (.lst (List.replicate (n + (ss.length - 1)) (D.bl true))) true [v, none, none]
  | [], n, z1, z2, _, _, _, _ => rfl
  | [a], n, z1, z2, _, _, _, _ => rfl
  | a :: b :: r, n, z1, z2, h1, h2, hs, hn => by
    have hs1 := List.pairwise_cons.mp hs
    have hn1 := List.nodup_cons.mp hn
    have hlt : strLt a b = true := lt_of_sLe (hs1.1 b List.mem_cons_self) fun e => hn1.1 (by rw [e]; exact List.mem_cons_self)
    have e : mO2 ltP (.pl 1) (.pl 2) [v, some (.str a, .s), some (.str b, .s)] = .ok (.bl true) false [v, some (.str a, .s), some (.str b, .s)] := by
      refine ev_pp (t := .s) (t' := .s) rfl rfl ?_
      show some (D.bl (strLt a b), false) = _
      rw [hlt]
    show (match mO2 ltP (.pl 1) (.pl 2) [v, some (.str a, .s), some (.str b, .s)] with
      | .ok d' _ e2 => lcE (.tp [.nm 1, .nm 2]) [1, 2] mYes (mO2 ltP (.pl 1) (.pl 2)) (prs (b :: r)) (List.replicate n (D.bl true) ++ [d']) e2
      | _ => .bad) = _
    rw [e]
    show lcE _ _ _ _ (prs (b :: r)) (List.replicate n (D.bl true) ++ [D.bl true]) _ = _
    rw [← List.replicate_succ', asc_loop (b :: r) (n + 1) _ _ rfl rfl hs1.2 hn1.2]
    have q : n + 1 + ((b :: r).length - 1) = n + ((a :: b :: r).length - 1) := by simp; omega
    rw [q]
theorem ascends_ok {ss : List Str} (hs : ss.Pairwise (fun a b => sLe a b = true)) (hn : ss.Nodup) : c_ascends [.lst (sl ss)] = .ok (.bl true) false none := by
  have zi : mZip (mV 0) (mSl (.pl 0) (some (mC (.int 1))) none) [some (.lst (sl ss), .s), none, none] = .ok (prs ss) [some (.lst (sl ss), .s), none, none] := by
    show RI.ok (zipD (sl ss) (cutD (sl ss) (some 1) none)) _ = _
    rw [cut1, zip_prs]
  have e3 : mLc (.tp [.nm 1, .nm 2]) [1, 2] (mZip (mV 0) (mSl (.pl 0) (some (mC (.int 1))) none)) (mYes) (mO2 ltP (.pl 1) (.pl 2)) [some (.lst (sl ss), .s), none, none] = .ok (.lst (List.replicate (0 + (ss.length - 1)) (D.bl true))) true [some (.lst (sl ss), .s), none, none] := by
    unfold mLc
    rw [show decide (0 ∉ [1, 2]) = true from rfl, zi]
    exact asc_loop ss 0 none none rfl rfl hs hn
  have z : b_ascends [some (.lst (sl ss), .s), none, none] = .rt (.bl true) false [some (.lst (sl ss), .s), none, none] := ev_ret (ev_x e3 (all_true _))
  show (match b_ascends [some (.lst (sl ss), .s), none, none] with
    | .nx e => RC.ok .non false (finE false e)
    | .rt d o e => .ok d o (finE false e)
    | .exc c fs e => .exc c fs (finE false e)
    | _ => .bad) = _
  rw [z]
  rfl
theorem strsD_sl : ∀ ss : List Str, strsD (sl ss) = some ss
  | [] => rfl
  | c :: r => by
    have := strsD_sl r
    unfold sl at this
    simp [strsD, sl, this]
theorem sortP_sl {ss : List Str} (h : ss.length < 64) : sortP (.lst (sl ss)) = some (.lst (sl (sSort ss)), true) := by
  show (match strsD (sl ss) with
    | some ss => match decide (ss.length < 64) with
      | true => some (D.lst ((sSort ss).map D.str), true)
      | false => none
    | none => none) = _
  rw [strsD_sl]
  show (match decide (ss.length < 64) with
      | true => some (D.lst ((sSort ss).map D.str), true)
      | false => none) = _
  rw [decide_eq_true h]
  rfl
def SeqS (v : D) (ss : List Str) : Prop := v = .lst (sl ss) ∨ v = .tup (sl ss)
theorem sortQ_s {v : D} {ss : List Str} (h : SeqS v ss) (hl : ss.length < 64) : sortQ v = some (.lst (sl (sSort ss)), true) := by
  rcases h with rfl | rfl <;> exact sortP_sl hl
theorem are_unlike_ok {v : D} {ss : List Str} (h : SeqS v ss) (hl : ss.length < 64) (hn : ss.Nodup) : c_are_unlike [v] = .ok (.bl true) false none := by
  have e := ascends_ok (sSort_sorted ss) ((sSort_perm ss).nodup_iff.mpr hn)
  have z : b_are_unlike [some (v, .s)] = .rt (.bl true) false [some (v, .s)] :=
    ev_ret (ev_call (dds := []) (ev_cons (ev_p (t := .s) rfl (sortQ_s h hl)) ev_nil) e)
  show (match b_are_unlike [some (v, .s)] with
    | .nx e => RC.ok .non false (finE false e)
    | .rt d o e => .ok d o (finE false e)
    | .exc c fs e => .exc c fs (finE false e)
    | _ => .bad) = _
  rw [z]
  rfl
theorem ann_loop {v a b : Sl} : ∀ (ss : List Str) (n : Nat) (z : Sl), freeE [z] 0 = true → (∀ s ∈ ss, NameOk s) →
    lcE (.nm 3) [3] mYes (mCall c_is_name [mV 3] []) (sl ss) (List.replicate n (D.bl true)) [v, a, b, z] = .ok (.lst (List.replicate (n + ss.length) (D.bl true))) true [v, a, b, none]
  | [], n, z, _, _ => rfl
  | s :: r, n, z, hz, h => by
    have e : mCall c_is_name [mV 3] [] [v, a, b, some (.str s, .s)] = .ok (.bl true) false [v, a, b, some (.str s, .s)] :=
      ev_call (dds := []) (ev_cons (ev_vs rfl) ev_nil) (is_name_ok (h s List.mem_cons_self))
    show (match mCall c_is_name [mV 3] [] [v, a, b, some (.str s, .s)] with
      | .ok d' _ e2 => lcE (.nm 3) [3] mYes (mCall c_is_name [mV 3] []) (sl r) (List.replicate n (D.bl true) ++ [d']) e2
      | _ => .bad) = _
    rw [e]
    show lcE _ _ _ _ (sl r) (List.replicate n (D.bl true) ++ [D.bl true]) _ = _
    rw [← List.replicate_succ', ann_loop r (n + 1) _ rfl fun x hx => h x (List.mem_cons_of_mem _ hx)]
    have q : n + 1 + r.length = n + (s :: r).length := by simp; omega
    rw [q]
theorem are_names_ok {v : D} {ss : List Str} {lo hi : Int} (h : SeqS v ss) (hl : ss.length < 64) (hn : ss.Nodup) (hs : ∀ s ∈ ss, NameOk s) (h1 : lo ≤ ss.length) (h2 : (ss.length : Int) ≤ hi) : c_are_names [v, .int lo, .int hi] = .ok (.bl true) false none := by
  let E : EV := [some (v, .s), some (.int lo, .s), some (.int hi, .s), none]
  have hlen : lenP v = some (.int ss.length, false) := by
    rcases h with rfl | rfl
    · show some (D.int (sl ss).length, false) = _
      simp [sl]
    · show some (D.int (sl ss).length, false) = _
      simp [sl]
  have t1 : mNotT (mT (mCall c_is_listed [mV 0] [])) E = .ok false E := by
    have e : c_is_listed [v] = .ok (.bl true) false none := by rcases h with rfl | rfl <;> rfl
    exact ev_not (ev_T (ev_call (dds := []) (ev_cons (ev_vs rfl) ev_nil) e))
  have t2 : mNotT (mT (mCh (cmpP fun i j => decide (i ≤ j)) (cmpP fun i j => decide (i ≤ j)) (mV 1) (mO1 lenP (.pl 0)) (mV 2))) E = .ok false E := by
    refine ev_not (k := true) (ev_T (o := false) ?_)
    have e : mO1 lenP (.pl 0) E = .ok (.int ss.length) false E := ev_p (t := .s) rfl hlen
    show (match mO1 lenP (.pl 0) E with
      | .ok d _ e => (match (cmpP (fun i j => decide (i ≤ j)) (.int lo) d : RP) with
        | some (.bl true, false) => bindE (mV 2) (fun z => liftP (cmpP (fun i j => decide (i ≤ j)) d z)) e
        | some (.bl false, false) => RE.ok (.bl false) false e
        | _ => .bad)
      | .exc c fs e => .exc c fs e
      | .bad => .bad) = _
    rw [e]
    show (match (some (D.bl (decide (lo ≤ (ss.length : Int))), false) : RP) with
        | some (.bl true, false) => RE.ok (.bl (decide ((ss.length : Int) ≤ hi))) false E
        | some (.bl false, false) => RE.ok (.bl false) false E
        | _ => .bad) = _
    rw [decide_eq_true h1, decide_eq_true h2]
  have e3 : mLc (.nm 3) [3] (itSq (mV 0)) (mYes) (mCall c_is_name [mV 3] []) E = .ok (.lst (List.replicate (0 + ss.length) (D.bl true))) true E := by
    have it : itSq (mV 0) E = .ok (sl ss) E := by rcases h with rfl | rfl <;> rfl
    unfold mLc
    rw [show decide (0 ∉ [3]) = true from rfl, it]
    exact ann_loop ss 0 none rfl hs
  have z : b_are_names E = .rt (.bl true) false E := by
    unfold b_are_names
    rw [ev_seq (ev_ifN ((ev_orF t1).trans t2))]
    refine ev_ret ?_
    unfold mAndV blE bindE
    rw [ev_x e3 (all_true _)]
    exact ev_call (dds := []) (ev_cons (ev_vs rfl) ev_nil) (are_unlike_ok h hl hn)
  show (match b_are_names E with
    | .nx e => RC.ok .non false (finE false e)
    | .rt d o e => .ok d o (finE false e)
    | .exc c fs e => .exc c fs (finE false e)
    | _ => .bad) = _
  rw [z]
  rfl
end K01

set_option Elab.async false
set_option linter.all false
set_option maxRecDepth 100000
set_option maxHeartbeats 1000000
/-! K01M6: a Table is made. -/
namespace K01
open PySem DL
theorem flat_sl (ss : List Str) : (sl ss).all flatD = true := by
  unfold sl
  rw [List.all_map]
  exact List.all_eq_true.mpr fun _ _ => rfl
theorem hasD_sl (s : Str) (ss : List Str) : hasD (.str s) (sl ss) = decide (s ∈ ss) := by
  unfold hasD sl
  rw [List.any_map]
  induction ss with
  | nil => rfl
  | cons x r ih =>
    rw [List.any_cons, ih]
    show (x == s || decide (s ∈ r)) = _
    by_cases h : x = s
    · subst h; simp
    · have h' : ¬ s = x := fun e => h e.symm
      simp [h, h']
theorem in_seq {neg : Bool} {s : Str} {v : D} {ss : List Str} (h : SeqS v ss) : inP neg (.str s) v = some (.bl (xor neg (decide (s ∈ ss))), false) := by
  have : inSeq neg (.str s) (sl ss) = some (.bl (xor neg (decide (s ∈ ss))), false) := by
    unfold inSeq
    rw [flat_sl, hasD_sl]
    rfl
  rcases h with rfl | rfl <;> exact this
theorem key_loop {a b c d : Sl} {v : D} {cs : List Str} {t : Tag} (hv : SeqS v cs) : ∀ (ss : List Str) (n : Nat) (z : Sl), freeE [z] 0 = true → (∀ s ∈ ss, s ∈ cs) →
    lcE (.nm 5) [5] mYes (mO2 (inP false) (.pl 5) (.pl 2)) (sl ss) (List.replicate n (D.bl true)) [a, b, some (v, t), c, d, z] = .ok (.lst (List.replicate (n + ss.length) (D.bl true))) true [a, b, some (v, t), c, d, none]
  | [], n, z, _, _ => rfl
  | s :: r, n, z, hz, h => by
    have e : mO2 (inP false) (.pl 5) (.pl 2) [a, b, some (v, t), c, d, some (.str s, .s)] = .ok (.bl true) false [a, b, some (v, t), c, d, some (.str s, .s)] := by
      refine ev_pp (t := .s) (t' := t) rfl rfl ?_
      rw [in_seq hv, decide_eq_true (h s List.mem_cons_self)]
      rfl
    show (match mO2 (inP false) (.pl 5) (.pl 2) [a, b, some (v, t), c, d, some (.str s, .s)] with
      | .ok d' _ e2 => lcE (.nm 5) [5] mYes (mO2 (inP false) (.pl 5) (.pl 2)) (sl r) (List.replicate n (D.bl true) ++ [d']) e2
      | _ => .bad) = _
    rw [e]
    show lcE _ _ _ _ (sl r) (List.replicate n (D.bl true) ++ [D.bl true]) _ = _
    rw [← List.replicate_succ', key_loop hv r (n + 1) _ rfl fun x hx => h x (List.mem_cons_of_mem _ hx)]
    have q : n + 1 + r.length = n + (s :: r).length := by simp; omega
    rw [q]
/-- columns that a table takes -/
structure ColsOk (cs : List Str) : Prop where
  nd : cs.Nodup
  nm : ∀ s ∈ cs, NameOk s
  ge : 1 ≤ cs.length
  le : cs.length ≤ 5
structure KeysOk (us cs : List Str) : Prop where
  nd : us.Nodup
  sub : ∀ s ∈ us, s ∈ cs
  le : us.length ≤ 5
def KindOk (k : Str) : Prop := k = "heap" ∨ k = "set"
def tbl (n : Str) (cs us : List Str) (k : Str) : D := .obj 0 [.str n, .tup (sl cs), .tup (sl (sSort us)), .str k]
theorem tup_s {v : D} {ss : List Str} (h : SeqS v ss) : tupleP v = some (.tup (sl ss), false) := by
  rcases h with rfl | rfl <;> rfl
theorem init_ok {n k : Str} {cs us : List Str} {v u : D} (hn : NameOk n) (hc : ColsOk cs) (hu : KeysOk us cs) (hk : KindOk k) (hv : SeqS v cs) (hu2 : SeqS u us) :
    c_Table___init__ [.obj 0 [], .str n, v, u, .str k] = .ok .non false (some (tbl n cs us k)) := by
  let E (o : D) : EV := [some (o, .p), some (.str n, .s), some (v, .s), some (u, .s), some (.str k, .s), none]
  have t1 : mNotT (mT (mCall c_is_name [mV 1] [])) (E (.obj 0 [])) = .ok false (E (.obj 0 [])) := ev_not (ev_T (ev_call (dds := []) (ev_cons (ev_vs rfl) ev_nil) (is_name_ok hn)))
  have t2 : mNotT (mT (mCall c_are_names [mV 2, mC (.int 1), mC (.int 5)] [])) (E (.obj 0 [])) = .ok false (E (.obj 0 [])) :=
    ev_not (ev_T (ev_call (dds := []) (ev_cons (ev_vs rfl) (ev_cons (o := false) rfl (ev_cons (o := false) rfl ev_nil))) (are_names_ok hv (by have := hc.le; omega) hc.nd hc.nm (by have := hc.ge; omega) (by have := hc.le; omega))))
  have t3 : mNotT (mT (mCall c_are_names [mV 3, mC (.int 0), mC (.int 5)] [])) (E (.obj 0 [])) = .ok false (E (.obj 0 [])) :=
    ev_not (ev_T (ev_call (dds := []) (ev_cons (ev_vs rfl) (ev_cons (o := false) rfl (ev_cons (o := false) rfl ev_nil))) (are_names_ok hu2 (by have := hu.le; omega) hu.nd (fun s h => hc.nm s (hu.sub s h)) (by omega) (by have := hu.le; omega))))
  have e4 : mLc (.nm 5) [5] (itSq (mV 3)) (mYes) (mO2 (inP false) (.pl 5) (.pl 2)) (E (.obj 0 [])) = .ok (.lst (List.replicate (0 + us.length) (D.bl true))) true (E (.obj 0 [])) := by
    have it : itSq (mV 3) (E (.obj 0 [])) = .ok (sl us) (E (.obj 0 [])) := by rcases hu2 with rfl | rfl <;> rfl
    unfold mLc
    rw [show decide (0 ∉ [5]) = true from rfl, it]
    exact key_loop hv us 0 none rfl hu.sub
  have t4 : mNotT (mT (mO1 allP (.ex (mLc (.nm 5) [5] (itSq (mV 3)) (mYes) (mO2 (inP false) (.pl 5) (.pl 2)))))) (E (.obj 0 [])) = .ok false (E (.obj 0 [])) := ev_not (ev_T (ev_x e4 (all_true _)))
  have t5 : mNotT (mT (mO1 (isiP anc [0] [.str]) (.pl 4))) (E (.obj 0 [])) = .ok false (E (.obj 0 [])) := rfl
  have t6 : mT (mO2 (inP true) (.pl 4) (.ex (mC (.tup [.str "heap", .str "set"])))) (E (.obj 0 [])) = .ok false (E (.obj 0 [])) := by
    rcases hk with rfl | rfl <;> rfl
  have s5 : mFld 0 ix_name (mV 1) (E (.obj 0 [])) = .nx (E (.obj 0 [.str n])) := rfl
  have s6 : mFld 0 ix_columns (mO1 tupleP (.pl 2)) (E (.obj 0 [.str n])) = .nx (E (.obj 0 [.str n, .tup (sl cs)])) := by
    unfold mFld bindS
    rw [ev_p (t := .s) (env := E (.obj 0 [.str n])) (x := v) rfl (tup_s hv)]
    rfl
  have s7 : mFld 0 ix_unique (mO1 tupleP (.ex (mO1 sortQ (.pl 3)))) (E (.obj 0 [.str n, .tup (sl cs)])) = .nx (E (.obj 0 [.str n, .tup (sl cs), .tup (sl (sSort us))])) := by
    unfold mFld bindS
    rw [ev_x (env := E (.obj 0 [.str n, .tup (sl cs)])) (ev_p (t := .s) (x := u) rfl (sortQ_s hu2 (by have := hu.le; omega))) (rfl : tupleP (.lst (sl (sSort us))) = some (.tup (sl (sSort us)), false))]
    rfl
  have s8 : mFld 0 ix_kind (mV 4) (E (.obj 0 [.str n, .tup (sl cs), .tup (sl (sSort us))])) = .nx (E (tbl n cs us k)) := rfl
  have z : b_Table___init__ (E (.obj 0 [])) = .nx (E (tbl n cs us k)) := by
    unfold b_Table___init__
    rw [ev_seq (ev_ifN t1), ev_seq (ev_ifN t2), ev_seq (ev_ifN ((ev_orF t3).trans t4)), ev_seq (ev_ifN ((ev_orF t5).trans t6)), ev_seq s5, ev_seq s6, ev_seq s7, s8]
  show (match b_Table___init__ (E (.obj 0 [])) with
    | .nx e => RC.ok .non false (finE true e)
    | .rt d o e => .ok d o (finE true e)
    | .exc c fs e => .exc c fs (finE true e)
    | _ => .bad) = _
  rw [z]
  rfl
end K01

set_option Elab.async false
set_option linter.all false
set_option maxRecDepth 100000
set_option maxHeartbeats 1000000
/-! K01M7: Tables compared. -/
namespace K01
open PySem DL
theorem eqL_sl : ∀ a b : List Str, eqL (sl a) (sl b) = decide (a = b)
  | [], [] => rfl
  | [], y :: b => by simp [sl, eqL]
  | x :: a, [] => by simp [sl, eqL]
  | x :: a, y :: b => by
    have ih := eqL_sl a b
    show (x == y && eqL (sl a) (sl b)) = _
    rw [ih]
    by_cases h : x = y
    · subst h; simp
    · simp [h]
theorem okDep_tbl (n k : Str) (cs us : List Str) : okDep (.tup [.str n, .tup (sl cs), .tup (sl us), .str k]) = true := by
  unfold okDep
  have h : depD (.tup [.str n, .tup (sl cs), .tup (sl us), .str k]) = some 2 := by
    simp [depD, depL, depStrs]
  rw [h]
  rfl
theorem eqD_tbl (n n' k k' : Str) (cs cs' us us' : List Str) : eqD (.tup [.str n, .tup (sl cs), .tup (sl us), .str k]) (.tup [.str n', .tup (sl cs'), .tup (sl us'), .str k']) = (n == n' && (decide (cs = cs') && (decide (us = us') && k == k'))) := by
  simp [eqD, eqL, eqL_sl]
theorem eq_ok (n n' k k' : Str) (cs cs' us us' : List Str) : c_Table___eq__ [tbl n cs us k, tbl n' cs' us' k'] = .ok (.bl (n == n' && (decide (cs = cs') && (decide (sSort us = sSort us') && k == k')))) false none := by
  let E (m : Sl) : EV := [some (tbl n cs us k, .s), some (tbl n' cs' us' k', .s), m]
  let V1 : D := .tup [.str n, .tup (sl cs), .tup (sl (sSort us)), .str k]
  let V2 : D := .tup [.str n', .tup (sl cs'), .tup (sl (sSort us')), .str k']
  have t1 : mNotT (mT (mO1 (isiP anc [0] [.own 0]) (.pl 1))) (E none) = .ok false (E none) := rfl
  have s2 : mSet 2 (mTup [mO1 (attrP ix_name) (.pl 0), mO1 (attrP ix_columns) (.pl 0), mO1 (attrP ix_unique) (.pl 0), mO1 (attrP ix_kind) (.pl 0)]) (E none) = .nx (E (some (V1, .s))) := rfl
  have e3 : mTup [mO1 (attrP ix_name) (.pl 1), mO1 (attrP ix_columns) (.pl 1), mO1 (attrP ix_unique) (.pl 1), mO1 (attrP ix_kind) (.pl 1)] (E (some (V1, .s))) = .ok V2 false (E (some (V1, .s))) := rfl
  have hp : eqP V1 V2 = some (.bl (n == n' && (decide (cs = cs') && (decide (sSort us = sSort us') && k == k'))), false) := by
    unfold eqP
    rw [okDep_tbl, okDep_tbl, eqD_tbl]
    rfl
  have z : b_Table___eq__ (E none) = .rt (.bl (n == n' && (decide (cs = cs') && (decide (sSort us = sSort us') && k == k')))) false (E (some (V1, .s))) := by
    unfold b_Table___eq__
    rw [ev_seq (ev_ifN t1), ev_seq s2]
    exact ev_ret (ev_px (t := .s) (t' := .s) (x0 := V1) rfl e3 rfl hp)
  show (match b_Table___eq__ (E none) with
    | .nx e => RC.ok .non false (finE false e)
    | .rt d o e => .ok d o (finE false e)
    | .exc c fs e => .exc c fs (finE false e)
    | _ => .bad) = _
  rw [z]
  rfl
theorem eq_tup (n k : Str) (cs us : List Str) (ds : List D) : c_Table___eq__ [tbl n cs us k, .tup ds] = .ok (.bl false) false none := rfl
end K01

set_option Elab.async false
set_option linter.all false
set_option maxRecDepth 100000
set_option maxHeartbeats 1000000
/-! K01M8: what a Table refuses. -/
namespace K01
open PySem DL
def iE (x v u k : D) : EV := [some (.obj 0 [], .p), some (x, .s), some (v, .s), some (u, .s), some (k, .s), none]
theorem init_st (x v u k : D) : c_Table___init__ [.obj 0 [], x, v, u, k] = (match b_Table___init__ (iE x v u k) with
    | .nx e => RC.ok .non false (finE true e)
    | .rt d o e => .ok d o (finE true e)
    | .exc c fs e => .exc c fs (finE true e)
    | _ => .bad) := rfl
theorem init_name {x v u k : D} (h : c_is_name [x] = .ok (.bl false) false none) : ∃ f, c_Table___init__ [.obj 0 [], x, v, u, k] = .exc 1 [.str "name"] f := by
  have t1 : mNotT (mT (mCall c_is_name [mV 1] [])) (iE x v u k) = .ok true (iE x v u k) := ev_not (ev_T (ev_call (dds := []) (ev_cons (ev_vs rfl) ev_nil) h))
  rw [init_st]
  unfold b_Table___init__
  rw [ev_seqX ((ev_ifT t1).trans (rfl : mRaise 1 (mC (.str "name")) (iE x v u k) = .exc 1 [.str "name"] (iE x v u k)))]
  exact ⟨_, rfl⟩
theorem init_cols {n : Str} {v u k : D} (hn : NameOk n) (h : c_are_names [v, .int 1, .int 5] = .ok (.bl false) false none) : ∃ f, c_Table___init__ [.obj 0 [], .str n, v, u, k] = .exc 1 [.str "columns"] f := by
  have t1 : mNotT (mT (mCall c_is_name [mV 1] [])) (iE (.str n) v u k) = .ok false (iE (.str n) v u k) := ev_not (ev_T (ev_call (dds := []) (ev_cons (ev_vs rfl) ev_nil) (is_name_ok hn)))
  have t2 : mNotT (mT (mCall c_are_names [mV 2, mC (.int 1), mC (.int 5)] [])) (iE (.str n) v u k) = .ok true (iE (.str n) v u k) :=
    ev_not (ev_T (ev_call (dds := []) (ev_cons (ev_vs rfl) (ev_cons (o := false) rfl (ev_cons (o := false) rfl ev_nil))) h))
  rw [init_st]
  unfold b_Table___init__
  rw [ev_seq (ev_ifN t1), ev_seqX ((ev_ifT t2).trans (rfl : mRaise 1 (mC (.str "columns")) (iE (.str n) v u k) = .exc 1 [.str "columns"] (iE (.str n) v u k)))]
  exact ⟨_, rfl⟩
/-- the keys are no names, or one is no column -/
theorem init_keys {n : Str} {cs : List Str} {v u k : D} (hn : NameOk n) (hc : ColsOk cs) (hv : SeqS v cs) (h : c_are_names [u, .int 0, .int 5] = .ok (.bl false) false none ∨ ∃ s, u = .lst (sl [s]) ∧ NameOk s ∧ s ∉ cs) : ∃ f, c_Table___init__ [.obj 0 [], .str n, v, u, k] = .exc 1 [.str "unique"] f := by
  have t1 : mNotT (mT (mCall c_is_name [mV 1] [])) (iE (.str n) v u k) = .ok false (iE (.str n) v u k) := ev_not (ev_T (ev_call (dds := []) (ev_cons (ev_vs rfl) ev_nil) (is_name_ok hn)))
  have t2 : mNotT (mT (mCall c_are_names [mV 2, mC (.int 1), mC (.int 5)] [])) (iE (.str n) v u k) = .ok false (iE (.str n) v u k) :=
    ev_not (ev_T (ev_call (dds := []) (ev_cons (ev_vs rfl) (ev_cons (o := false) rfl (ev_cons (o := false) rfl ev_nil))) (are_names_ok hv (by have := hc.le; omega) hc.nd hc.nm (by have := hc.ge; omega) (by have := hc.le; omega))))
  have t3 : mOrT (mNotT (mT (mCall c_are_names [mV 3, mC (.int 0), mC (.int 5)] []))) (mNotT (mT (mO1 allP (.ex (mLc (.nm 5) [5] (itSq (mV 3)) (mYes) (mO2 (inP false) (.pl 5) (.pl 2))))))) (iE (.str n) v u k) = .ok true (iE (.str n) v u k) := by
    rcases h with h | ⟨s, rfl, hs, hns⟩
    · exact ev_orT (ev_not (ev_T (ev_call (dds := []) (ev_cons (ev_vs rfl) (ev_cons (o := false) rfl (ev_cons (o := false) rfl ev_nil))) h)))
    · have e := are_names_ok (v := .lst (sl [s])) (ss := [s]) (lo := 0) (hi := 5) (.inl rfl) (by simp) (by simp) (by simpa using hs) (by simp) (by simp)
      refine (ev_orF (ev_not (ev_T (ev_call (dds := []) (ev_cons (ev_vs rfl) (ev_cons (o := false) rfl (ev_cons (o := false) rfl ev_nil))) e)))).trans ?_
      refine ev_not (k := false) (ev_T (o := false) (ev_x (x := .lst [.bl false]) (o1 := true) ?_ rfl))
      have e2 : mO2 (inP false) (.pl 5) (.pl 2) [some (.obj 0 [], .p), some (.str n, .s), some (v, .s), some (.lst (sl [s]), .s), some (k, .s), some (.str s, .s)] = .ok (.bl false) false [some (.obj 0 [], .p), some (.str n, .s), some (v, .s), some (.lst (sl [s]), .s), some (k, .s), some (.str s, .s)] := by
        refine ev_pp (t := .s) (t' := .s) rfl rfl ?_
        rw [in_seq hv, decide_eq_false hns]
        rfl
      show (match mO2 (inP false) (.pl 5) (.pl 2) [some (.obj 0 [], .p), some (.str n, .s), some (v, .s), some (.lst (sl [s]), .s), some (k, .s), some (.str s, .s)] with
        | .ok d' _ e2 => lcE (.nm 5) [5] mYes (mO2 (inP false) (.pl 5) (.pl 2)) [] ([] ++ [d']) e2
        | _ => .bad) = _
      rw [e2]
      rfl
  rw [init_st]
  unfold b_Table___init__
  rw [ev_seq (ev_ifN t1), ev_seq (ev_ifN t2), ev_seqX ((ev_ifT t3).trans (rfl : mRaise 1 (mC (.str "unique")) (iE (.str n) v u k) = .exc 1 [.str "unique"] (iE (.str n) v u k)))]
  exact ⟨_, rfl⟩
end K01

set_option Elab.async false
set_option linter.all false
set_option maxRecDepth 100000
set_option maxHeartbeats 1000000
/-! K01M9: the bad values. -/
namespace K01
open PySem DL
def bads : List D := [.non, .int 5, .str "", .str "A", .str "a1", .str "a b", .str "abcdefghi", .lst [.str "a"], .tup [.str "a"], .bl true, .str "a_"]
theorem bads_no : ∀ x ∈ bads, c_is_name [x] = .ok (.bl false) false none := by
  intro x hx
  simp only [bads, List.mem_cons, List.not_mem_nil, or_false] at hx
  rcases hx with rfl | rfl | rfl | rfl | rfl | rfl | rfl | rfl | rfl | rfl | rfl <;> rfl
def dA : D := .dct [(Sum.inr "a", .int 1)]
theorem dA_is (env : EV) : ∃ o, mDct [(mC (.str "a"), mC (.int 1))] env = .ok dA o env := ⟨_, rfl⟩
def odds : List D := [.non, .int 5, .tup [], .lst [], .str "ab", dA, .lst [.str "a", .str "a"], .lst [.str "a", .str ""], .lst [.str "a", .non], .lst [.str "abcdefghi"], .lst [.str "a", .str "b", .str "c", .str "d", .str "e", .str "f"], .lst [.lst [.str "a"]]]
theorem odds_no : ∀ x ∈ odds, c_are_names [x, .int 1, .int 5] = .ok (.bl false) false none := by
  intro x hx
  simp only [odds, List.mem_cons, List.not_mem_nil, or_false] at hx
  rcases hx with rfl | rfl | rfl | rfl | rfl | rfl | rfl | rfl | rfl | rfl | rfl | rfl <;> rfl
def nones : List D := [.non, .int 5, .str "Heap", .str "", .str "bag", .bl true, .tup [.str "set"]]
theorem nones_no {n : Str} {v u : D} : ∀ x ∈ nones, mOrT (mNotT (mT (mO1 (isiP anc [0] [.str]) (.pl 4)))) (mT (mO2 (inP true) (.pl 4) (.ex (mC (.tup [.str "heap", .str "set"]))))) (iE (.str n) v u x) = .ok true (iE (.str n) v u x) := by
  intro x hx
  simp only [nones, List.mem_cons, List.not_mem_nil, or_false] at hx
  rcases hx with rfl | rfl | rfl | rfl | rfl | rfl | rfl <;> rfl
theorem init_kind {n : Str} {cs us : List Str} {v u k : D} (hn : NameOk n) (hc : ColsOk cs) (hu : KeysOk us cs) (hv : SeqS v cs) (hu2 : SeqS u us) (hk : k ∈ nones) : ∃ f, c_Table___init__ [.obj 0 [], .str n, v, u, k] = .exc 1 [.str "kind"] f := by
  have t1 : mNotT (mT (mCall c_is_name [mV 1] [])) (iE (.str n) v u k) = .ok false (iE (.str n) v u k) := ev_not (ev_T (ev_call (dds := []) (ev_cons (ev_vs rfl) ev_nil) (is_name_ok hn)))
  have t2 : mNotT (mT (mCall c_are_names [mV 2, mC (.int 1), mC (.int 5)] [])) (iE (.str n) v u k) = .ok false (iE (.str n) v u k) :=
    ev_not (ev_T (ev_call (dds := []) (ev_cons (ev_vs rfl) (ev_cons (o := false) rfl (ev_cons (o := false) rfl ev_nil))) (are_names_ok hv (by have := hc.le; omega) hc.nd hc.nm (by have := hc.ge; omega) (by have := hc.le; omega))))
  have t3 : mNotT (mT (mCall c_are_names [mV 3, mC (.int 0), mC (.int 5)] [])) (iE (.str n) v u k) = .ok false (iE (.str n) v u k) :=
    ev_not (ev_T (ev_call (dds := []) (ev_cons (ev_vs rfl) (ev_cons (o := false) rfl (ev_cons (o := false) rfl ev_nil))) (are_names_ok hu2 (by have := hu.le; omega) hu.nd (fun s h => hc.nm s (hu.sub s h)) (by omega) (by have := hu.le; omega))))
  have e4 : mLc (.nm 5) [5] (itSq (mV 3)) (mYes) (mO2 (inP false) (.pl 5) (.pl 2)) (iE (.str n) v u k) = .ok (.lst (List.replicate (0 + us.length) (D.bl true))) true (iE (.str n) v u k) := by
    have it : itSq (mV 3) (iE (.str n) v u k) = .ok (sl us) (iE (.str n) v u k) := by rcases hu2 with rfl | rfl <;> rfl
    unfold mLc
    rw [show decide (0 ∉ [5]) = true from rfl, it]
    exact key_loop hv us 0 none rfl hu.sub
  have t4 : mNotT (mT (mO1 allP (.ex (mLc (.nm 5) [5] (itSq (mV 3)) (mYes) (mO2 (inP false) (.pl 5) (.pl 2)))))) (iE (.str n) v u k) = .ok false (iE (.str n) v u k) := ev_not (ev_T (ev_x e4 (all_true _)))
  rw [init_st]
  unfold b_Table___init__
  rw [ev_seq (ev_ifN t1), ev_seq (ev_ifN t2), ev_seq (ev_ifN ((ev_orF t3).trans t4)), ev_seqX ((ev_ifT (nones_no k hk)).trans (rfl : mRaise 1 (mC (.str "kind")) (iE (.str n) v u k) = .exc 1 [.str "kind"] (iE (.str n) v u k)))]
  exact ⟨_, rfl⟩
end K01

set_option Elab.async false
set_option linter.all false
set_option maxRecDepth 100000
set_option maxHeartbeats 1000000
/-! K01M10: keys that are refused. -/
namespace K01
open PySem DL
theorem strLt_irr (s : Str) : strLt s s = false := decide_eq_false (List.lt_irrefl _)
theorem sort_twice (s : Str) : sSort [s, s] = [s, s] := by
  show (match sLe s s with
    | true => s :: s :: []
    | false => s :: sIns s []) = _
  cases sLe s s <;> rfl
theorem unlike_twice (s : Str) : c_are_unlike [.lst (sl [s, s])] = .ok (.bl false) false none := by
  have e2 : mO2 ltP (.pl 1) (.pl 2) [some (.lst (sl [s, s]), .s), some (.str s, .s), some (.str s, .s)] = .ok (.bl false) false [some (.lst (sl [s, s]), .s), some (.str s, .s), some (.str s, .s)] := by
    refine ev_pp (t := .s) (t' := .s) rfl rfl ?_
    show some (D.bl (strLt s s), false) = _
    rw [strLt_irr]
  have e3 : mLc (.tp [.nm 1, .nm 2]) [1, 2] (mZip (mV 0) (mSl (.pl 0) (some (mC (.int 1))) none)) (mYes) (mO2 ltP (.pl 1) (.pl 2)) [some (.lst (sl [s, s]), .s), none, none] = .ok (.lst [.bl false]) true [some (.lst (sl [s, s]), .s), none, none] := by
    show (match mO2 ltP (.pl 1) (.pl 2) [some (.lst (sl [s, s]), .s), some (.str s, .s), some (.str s, .s)] with
      | .ok d' _ e2 => lcE (.tp [.nm 1, .nm 2]) [1, 2] mYes (mO2 ltP (.pl 1) (.pl 2)) [] ([] ++ [d']) e2
      | _ => .bad) = _
    rw [e2]
    rfl
  have a : c_ascends [.lst (sl [s, s])] = .ok (.bl false) false none := by
    have z : b_ascends [some (.lst (sl [s, s]), .s), none, none] = .rt (.bl false) false [some (.lst (sl [s, s]), .s), none, none] := ev_ret (ev_x e3 rfl)
    show (match b_ascends [some (.lst (sl [s, s]), .s), none, none] with
      | .nx e => RC.ok .non false (finE false e)
      | .rt d o e => .ok d o (finE false e)
      | .exc c fs e => .exc c fs (finE false e)
      | _ => .bad) = _
    rw [z]
    rfl
  have q : sortQ (.lst (sl [s, s])) = some (.lst (sl [s, s]), true) := by
    have := sortQ_s (v := .lst (sl [s, s])) (ss := [s, s]) (.inl rfl) (by simp)
    rw [sort_twice] at this
    exact this
  have z : b_are_unlike [some (.lst (sl [s, s]), .s)] = .rt (.bl false) false [some (.lst (sl [s, s]), .s)] :=
    ev_ret (ev_call (dds := []) (ev_cons (ev_p (t := .s) rfl q) ev_nil) a)
  show (match b_are_unlike [some (.lst (sl [s, s]), .s)] with
    | .nx e => RC.ok .non false (finE false e)
    | .rt d o e => .ok d o (finE false e)
    | .exc c fs e => .exc c fs (finE false e)
    | _ => .bad) = _
  rw [z]
  rfl
theorem twice_no {s : Str} (h : NameOk s) : c_are_names [.lst (sl [s, s]), .int 0, .int 5] = .ok (.bl false) false none := by
  let E : EV := [some (.lst (sl [s, s]), .s), some (.int 0, .s), some (.int 5, .s), none]
  have t1 : mOrT (mNotT (mT (mCall c_is_listed [mV 0] []))) (mNotT (mT (mCh (cmpP fun i j => decide (i ≤ j)) (cmpP fun i j => decide (i ≤ j)) (mV 1) (mO1 lenP (.pl 0)) (mV 2)))) E = .ok false E := rfl
  have e3 : mLc (.nm 3) [3] (itSq (mV 0)) (mYes) (mCall c_is_name [mV 3] []) E = .ok (.lst (List.replicate (0 + 2) (D.bl true))) true E := by
    have it : itSq (mV 0) E = .ok (sl [s, s]) E := rfl
    unfold mLc
    rw [show decide (0 ∉ [3]) = true from rfl, it]
    exact ann_loop [s, s] 0 none rfl (by simpa using h)
  have z : b_are_names E = .rt (.bl false) false E := by
    unfold b_are_names
    rw [ev_seq (ev_ifN t1)]
    refine ev_ret ?_
    unfold mAndV blE bindE
    rw [ev_x e3 (all_true _)]
    exact ev_call (dds := []) (ev_cons (ev_vs rfl) ev_nil) (unlike_twice s)
  show (match b_are_names E with
    | .nx e => RC.ok .non false (finE false e)
    | .rt d o e => .ok d o (finE false e)
    | .exc c fs e => .exc c fs (finE false e)
    | _ => .bad) = _
  rw [z]
  rfl
def aways (c0 far : Str) : List D := [.non, .int 5, .str "a", .str c0, dA, .lst [.str c0, .str c0], .lst [.str far], .lst [.non], .lst [.lst [.str c0]]]
theorem aways_no {c0 far : Str} {cs : List Str} (h0 : NameOk c0) (hf : NameOk far) (hn : far ∉ cs) : ∀ u ∈ aways c0 far, c_are_names [u, .int 0, .int 5] = .ok (.bl false) false none ∨ ∃ s, u = .lst (sl [s]) ∧ NameOk s ∧ s ∉ cs := by
  intro x hx
  simp only [aways, List.mem_cons, List.not_mem_nil, or_false] at hx
  rcases hx with rfl | rfl | rfl | rfl | rfl | rfl | rfl | rfl | rfl
  · exact .inl rfl
  · exact .inl rfl
  · exact .inl rfl
  · exact .inl rfl
  · exact .inl rfl
  · exact .inl (twice_no h0)
  · exact .inr ⟨far, rfl, hf, hn⟩
  · exact .inl rfl
  · exact .inl rfl
end K01

set_option Elab.async false
set_option linter.all false
set_option maxRecDepth 100000
set_option maxHeartbeats 1000000
/-! K01M11: one turn of the law, its parts. -/
namespace K01
open PySem DL LamX
def EE (a0 a1 a2 a3 a4 a5 a6 a7 a8 a9 a10 a11 a12 a13 a14 a15 a16 a17 a18 a19 a20 : Sl) : EV := [a0, a1, a2, a3, a4, a5, a6, a7, a8, a9, a10, a11, a12, a13, a14, a15, a16, a17, a18, a19, a20]
/-- a slot that may be stored -/
def Fr (z : Sl) : Prop := freeE [z] 0 = true
theorem Fr.s (d : D) : Fr (some (d, .s)) := rfl
theorem Fr.o (d : D) : Fr (some (d, .o)) := rfl
theorem Fr.n : Fr none := rfl
theorem tg2 {i j : Nat} {a b : D} {env : EV} (h1 : freeE env i = true) (h2 : freeE (env.set i (some (a, .s))) j = true) : setTg (.tp [.nm i, .nm j]) (.tup [a, b]) env = some ((env.set i (some (a, .s))).set j (some (b, .s))) := by
  have e1 : setTg (.nm i) a env = some (env.set i (some (a, .s))) := by
    unfold setTg; simp only [h1]
  have e2 : setTg (.nm j) b (env.set i (some (a, .s))) = some ((env.set i (some (a, .s))).set j (some (b, .s))) := by
    unfold setTg; simp only [h2]
  show (match setTg (.nm i) a env with
    | some e => (match setTg (.nm j) b e with
      | some e => some e
      | none => none)
    | none => none) = _
  rw [e1]
  show (match setTg (.nm j) b (env.set i (some (a, .s))) with
      | some e => some e
      | none => none) = _
  rw [e2]
section
variable {a0 a2 a3 a4 a5 a6 a7 a8 a9 a10 a11 a12 a13 a14 a15 a16 a17 a18 a19 a20 : Sl} {pen : D} {T : Nat}
/-- name, columns = _law_name(pen, 8), [] -/
theorem stA (h3 : Fr a3) (h4 : Fr a4) (hp : PenOk T pen) (hT : T + 10 ≤ 1000000) : ∃ n pen', mUn (.tp [.nm 3, .nm 4]) (mTup [mCallIO c__law_name 1 [mC (.int 8)] [], mLst []]) (EE a0 (some (pen, .o)) a2 a3 a4 a5 a6 a7 a8 a9 a10 a11 a12 a13 a14 a15 a16 a17 a18 a19 a20) = .nx (EE a0 (some (pen', .o)) a2 (some (.str n, .s)) (some (.lst (sl []), .s)) a5 a6 a7 a8 a9 a10 a11 a12 a13 a14 a15 a16 a17 a18 a19 a20) ∧ NameOk n ∧ PenOk (T + 9) pen' := by
  obtain ⟨n, pen', e, hn, hp'⟩ := name_ok hp hT
  refine ⟨n, pen', ?_, hn, hp'⟩
  exact ev_un (ev_tup (ev_cons (ev_callIO (t := .o) (dds := []) (x := pen) rfl (ev_cons (o := false) rfl ev_nil) rfl (by decide) e) (ev_cons (ev_lst ev_nil) ev_nil))) (tg2 h3 h4)
abbrev colB : MS := mSeq (mSet 6 (mCallIO c__law_name 1 [mC (.int 8)] []))
    (mSet 4 (mO2 addP (.pl 4) (.ex (mIf (mT (mO2 (inP true) (.pl 6) (.pl 4))) (mLst [mV 6]) (mLst [])))))
theorem addP_sl {a b : List Str} (h : a.length + b.length ≤ 1000) : addP (.lst (sl a)) (.lst (sl b)) = some (.lst (sl (a ++ b)), true) := by
  have h1 : (sl a).length = a.length := by simp [sl]
  have h2 : (sl b).length = b.length := by simp [sl]
  show (match decide ((sl a).length + (sl b).length ≤ sizeLine) with | true => some (D.lst (sl a ++ sl b), true) | false => none) = _
  rw [decide_eq_true (by rw [h1, h2, sizeLine_eq]; omega)]
  simp [sl]
theorem colStep {t : Tag} {cs : List Str} (ht : t ≠ .p) (h6 : Fr a6) (hp : PenOk T pen) (hT : T + 10 ≤ 1000000) (hl : cs.length ≤ 100) : ∃ c pen', colB (EE a0 (some (pen, .o)) a2 a3 (some (.lst (sl cs), t)) a5 a6 a7 a8 a9 a10 a11 a12 a13 a14 a15 a16 a17 a18 a19 a20) = .nx (EE a0 (some (pen', .o)) a2 a3 (some (.lst (sl (cs ++ if c ∈ cs then [] else [c])), .o)) a5 (some (.str c, .s)) a7 a8 a9 a10 a11 a12 a13 a14 a15 a16 a17 a18 a19 a20) ∧ NameOk c ∧ PenOk (T + 9) pen' := by
  obtain ⟨c, pen', e, hn, hp'⟩ := name_ok hp hT
  refine ⟨c, pen', ?_, hn, hp'⟩
  let E6 : EV := EE a0 (some (pen', .o)) a2 a3 (some (.lst (sl cs), t)) a5 (some (.str c, .s)) a7 a8 a9 a10 a11 a12 a13 a14 a15 a16 a17 a18 a19 a20
  have s1 : mSet 6 (mCallIO c__law_name 1 [mC (.int 8)] []) (EE a0 (some (pen, .o)) a2 a3 (some (.lst (sl cs), t)) a5 a6 a7 a8 a9 a10 a11 a12 a13 a14 a15 a16 a17 a18 a19 a20) = .nx E6 :=
    ev_set (o := false) (ev_callIO (t := .o) (dds := []) (x := pen) rfl (ev_cons (o := false) rfl ev_nil) rfl (by decide) e) h6
  have ec : mT (mO2 (inP true) (.pl 6) (.pl 4)) E6 = .ok (xor true (decide (c ∈ cs))) E6 := ev_T (ev_pp (t := .s) (t' := t) rfl rfl (in_seq (.inl rfl)))
  have ei : mIf (mT (mO2 (inP true) (.pl 6) (.pl 4))) (mLst [mV 6]) (mLst []) E6 = .ok (.lst (sl (if c ∈ cs then [] else [c]))) true E6 := by
    rw [ev_ifE ec]
    by_cases h : c ∈ cs
    · rw [decide_eq_true h, if_pos h]; rfl
    · rw [decide_eq_false h, if_neg h]; rfl
  have ef : freeE E6 4 = true := by cases t <;> first | rfl | exact absurd rfl ht
  refine (ev_seq s1).trans ?_
  exact ev_set (o := true) (ev_px (t := t) (t' := t) (x0 := .lst (sl cs)) rfl ei rfl (addP_sl (by split <;> simp <;> omega))) ef
theorem colLoop : ∀ (ds : List D) {T : Nat} {pen : D} {a5 a6 : Sl} {t : Tag} {cs : List Str}, t ≠ .p → Fr a5 → Fr a6 → PenOk T pen → T + 9 * ds.length + 10 ≤ 1000000 → cs.length + ds.length ≤ 100 → cs.Nodup → (∀ s ∈ cs, NameOk s) →
    ∃ (cs' : List Str) (pen' : D) (b5 b6 : Sl) (t' : Tag), forE (.nm 5) colB ds (EE a0 (some (pen, .o)) a2 a3 (some (.lst (sl cs), t)) a5 a6 a7 a8 a9 a10 a11 a12 a13 a14 a15 a16 a17 a18 a19 a20) = .nx (EE a0 (some (pen', .o)) a2 a3 (some (.lst (sl cs'), t')) b5 b6 a7 a8 a9 a10 a11 a12 a13 a14 a15 a16 a17 a18 a19 a20) ∧ cs'.Nodup ∧ (∀ s ∈ cs', NameOk s) ∧ cs'.length ≤ cs.length + ds.length ∧ (ds ≠ [] ∨ cs ≠ [] → cs' ≠ []) ∧ Fr b5 ∧ Fr b6 ∧ t' ≠ .p ∧ PenOk (T + 9 * ds.length) pen'
  | [], T, pen, a5, a6, t, cs, ht, h5, h6, hp, _, _, hn, hs => ⟨cs, pen, a5, a6, t, rfl, hn, hs, by simp, fun h => h.elim (fun z => absurd rfl z) id, h5, h6, ht, hp.mono (by simp)⟩
  | d :: r, T, pen, a5, a6, t, cs, ht, h5, h6, hp, hT, hl, hn, hs => by
    rw [List.length_cons] at hT hl
    obtain ⟨c, pen1, e1, hc, hp1⟩ := colStep (a0 := a0) (a2 := a2) (a3 := a3) (a5 := some (d, .s)) (a7 := a7) (a8 := a8) (a9 := a9) (a10 := a10) (a11 := a11) (a12 := a12) (a13 := a13) (a14 := a14) (a15 := a15) (a16 := a16) (a17 := a17) (a18 := a18) (a19 := a19) (a20 := a20) ht h6 hp (by omega) (cs := cs) (by omega)
    have hl1 : (cs ++ if c ∈ cs then [] else [c]).length ≤ cs.length + 1 := by split <;> simp
    have hn1 : (cs ++ if c ∈ cs then [] else [c]).Nodup := by
      split
      · simpa using hn
      · rename_i h
        refine List.nodup_append.mpr ⟨hn, by simp, ?_⟩
        intro a ha b hb e
        rw [List.mem_singleton] at hb
        exact h (by rw [← hb, ← e]; exact ha)
    have hs1 : ∀ s ∈ cs ++ (if c ∈ cs then [] else [c]), NameOk s := by
      intro s h
      rcases List.mem_append.mp h with h | h
      · exact hs s h
      · split at h
        · cases h
        · rw [List.mem_singleton] at h; subst h; exact hc
    obtain ⟨cs', pen2, b5, b6, t', e2, g1, g2, g3, g4, g5, g6, g7, g8⟩ := colLoop r (T := T + 9) (pen := pen1) (a5 := some (d, .s)) (a6 := some (.str c, .s)) (t := .o) (by decide) (Fr.s _) (Fr.s _) hp1 (by omega) (by omega) hn1 hs1
    refine ⟨cs', pen2, b5, b6, t', ?_, g1, g2, by rw [List.length_cons]; omega, fun _ => g4 (.inr fun z => ?_), g5, g6, g7, by rw [List.length_cons]; exact g8.mono (by omega)⟩
    · have st : setTg (.nm 5) d (EE a0 (some (pen, .o)) a2 a3 (some (.lst (sl cs), t)) a5 a6 a7 a8 a9 a10 a11 a12 a13 a14 a15 a16 a17 a18 a19 a20) = some (EE a0 (some (pen, .o)) a2 a3 (some (.lst (sl cs), t)) (some (d, .s)) a6 a7 a8 a9 a10 a11 a12 a13 a14 a15 a16 a17 a18 a19 a20) := by
        have f5 : freeE (EE a0 (some (pen, .o)) a2 a3 (some (.lst (sl cs), t)) a5 a6 a7 a8 a9 a10 a11 a12 a13 a14 a15 a16 a17 a18 a19 a20) 5 = true := h5
        unfold setTg
        simp only [f5]
        rfl
      unfold forE
      rw [st]
      show (match colB _ with
        | .nx e' => forE (.nm 5) colB r e'
        | .ct e' => forE (.nm 5) colB r e'
        | .bk e' => .nx e'
        | .rt d o e' => .rt d o e'
        | .exc c fs e' => .exc c fs e'
        | .bad => .bad) = _
      rw [e1]
      exact e2
    · have := congrArg List.length z
      by_cases h : c ∈ cs
      · rw [if_pos h, List.append_nil] at z; rw [z] at h; cases h
      · rw [if_neg h] at this; simp at this
end
end K01

set_option Elab.async false
set_option linter.all false
set_option maxRecDepth 100000
set_option maxHeartbeats 1000000
/-! K01M12: the keys are drawn. -/
namespace K01
open PySem DL LamX
section
variable {a0 a2 a3 a4 a5 a7 a8 a9 a10 a11 a12 a13 a14 a15 a16 a17 a18 a19 a20 : Sl}
abbrev keyT : MT := mT (mO2 eqP (.ex (mCallIO c__law_draw 1 [mC (.int 3)] [])) (.ex (mC (.int 0))))
theorem keyLoop : ∀ (ss : List Str) {T : Nat} {pen : D} {a6 : Sl} {acc : List Str}, Fr a6 → PenOk T pen → T + ss.length ≤ 1000000 →
    ∃ (ks : List Str) (pen' : D), lcE (.nm 6) [6] keyT (mV 6) (sl ss) (sl acc) (EE a0 (some (pen, .o)) a2 a3 a4 a5 a6 a7 a8 a9 a10 a11 a12 a13 a14 a15 a16 a17 a18 a19 a20) = .ok (.lst (sl (acc ++ ks))) true (EE a0 (some (pen', .o)) a2 a3 a4 a5 none a7 a8 a9 a10 a11 a12 a13 a14 a15 a16 a17 a18 a19 a20) ∧ ks.Sublist ss ∧ PenOk (T + ss.length) pen'
  | [], T, pen, a6, acc, h6, hp, _ => ⟨[], pen, by rw [List.append_nil]; rfl, .slnil, hp.mono (by simp)⟩
  | s :: r, T, pen, a6, acc, h6, hp, hT => by
    rw [List.length_cons] at hT
    obtain ⟨q, pen1, e1, q0, q1, hp1⟩ := draw_ok (m := 3) hp (by omega) (by decide) (by decide)
    have et : keyT (EE a0 (some (pen, .o)) a2 a3 a4 a5 (some (.str s, .s)) a7 a8 a9 a10 a11 a12 a13 a14 a15 a16 a17 a18 a19 a20) = .ok (q == 0) (EE a0 (some (pen1, .o)) a2 a3 a4 a5 (some (.str s, .s)) a7 a8 a9 a10 a11 a12 a13 a14 a15 a16 a17 a18 a19 a20) :=
      ev_T (ev_xx (ev_callIO (t := .o) (dds := []) (x := pen) rfl (ev_cons (o := false) rfl ev_nil) rfl (by decide) e1) (o2 := false) rfl rfl)
    have st : lcE (.nm 6) [6] keyT (mV 6) (sl (s :: r)) (sl acc) (EE a0 (some (pen, .o)) a2 a3 a4 a5 a6 a7 a8 a9 a10 a11 a12 a13 a14 a15 a16 a17 a18 a19 a20) = (match keyT (EE a0 (some (pen, .o)) a2 a3 a4 a5 (some (.str s, .s)) a7 a8 a9 a10 a11 a12 a13 a14 a15 a16 a17 a18 a19 a20) with
      | .ok true e1 => (match mV 6 e1 with
        | .ok d' _ e2 => lcE (.nm 6) [6] keyT (mV 6) (sl r) (sl acc ++ [d']) e2
        | _ => .bad)
      | .ok false e1 => lcE (.nm 6) [6] keyT (mV 6) (sl r) (sl acc) e1
      | _ => .bad) := rfl
    rw [st, et]
    cases hq : q == 0 with
    | true =>
      obtain ⟨ks, pen2, e2, hs, hp2⟩ := keyLoop r (T := T + 1) (pen := pen1) (a6 := some (.str s, .s)) (acc := acc ++ [s]) (Fr.s _) hp1 (by omega)
      refine ⟨s :: ks, pen2, ?_, hs.cons₂ s, by rw [List.length_cons]; exact hp2.mono (by omega)⟩
      have ea : sl acc ++ [D.str s] = sl (acc ++ [s]) := by simp [sl]
      show lcE (.nm 6) [6] keyT (mV 6) (sl r) (sl acc ++ [D.str s]) (EE a0 (some (pen1, .o)) a2 a3 a4 a5 (some (.str s, .s)) a7 a8 a9 a10 a11 a12 a13 a14 a15 a16 a17 a18 a19 a20) = _
      rw [ea, e2]
      simp
    | false =>
      obtain ⟨ks, pen2, e2, hs, hp2⟩ := keyLoop r (T := T + 1) (pen := pen1) (a6 := some (.str s, .s)) (acc := acc) (Fr.s _) hp1 (by omega)
      exact ⟨ks, pen2, e2, hs.cons s, by rw [List.length_cons]; exact hp2.mono (by omega)⟩
/-- keys, kind = [..], _law_pick(..) -/
theorem stB {T : Nat} {pen : D} {a6 : Sl} {t : Tag} {cs : List Str} (ht : t ≠ .p) (h6 : Fr a6) (h7 : Fr a7) (h8 : Fr a8) (hp : PenOk T pen) (hT : T + 20 ≤ 1000000) (hl : cs.length ≤ 5) :
    ∃ (ks : List Str) (k : Str) (pen' : D), mUn (.tp [.nm 7, .nm 8]) (mTup [mLc (.nm 6) [6] (itSq (mCallIO c__law_mixed 1 [mV 4] [])) keyT (mV 6), mCallIO c__law_pick 1 [mLst [mC (.str "heap"), mC (.str "set")]] []]) (EE a0 (some (pen, .o)) a2 a3 (some (.lst (sl cs), t)) a5 a6 a7 a8 a9 a10 a11 a12 a13 a14 a15 a16 a17 a18 a19 a20) = .nx (EE a0 (some (pen', .o)) a2 a3 (some (.lst (sl cs), .s)) a5 none (some (.lst (sl ks), .s)) (some (.str k, .s)) a9 a10 a11 a12 a13 a14 a15 a16 a17 a18 a19 a20) ∧ (cs.Nodup → ks.Nodup) ∧ (∀ s ∈ ks, s ∈ cs) ∧ ks.length ≤ cs.length ∧ KindOk k ∧ PenOk (T + 11) pen' := by
  obtain ⟨ms, pen1, e1, hperm, hp1⟩ := mixed_ok (ss := cs) hp (by omega) (by omega)
  obtain ⟨ks, pen2, e2, hs, hp2⟩ := keyLoop (a0 := a0) (a2 := a2) (a3 := a3) (a4 := some (.lst (sl cs), .s)) (a5 := a5) (a7 := a7) (a8 := a8) (a9 := a9) (a10 := a10) (a11 := a11) (a12 := a12) (a13 := a13) (a14 := a14) (a15 := a15) (a16 := a16) (a17 := a17) (a18 := a18) (a19 := a19) (a20 := a20) ms (acc := []) h6 hp1 (by rw [hperm.length_eq]; omega)
  obtain ⟨k, pen3, e3, hk, hp3⟩ := pick_ok (xs := [.str "heap", .str "set"]) hp2 (by rw [hperm.length_eq]; omega) (by simp) (by simp)
  have hk' : ∃ kk, k = .str kk ∧ KindOk kk := by
    simp only [List.mem_cons, List.not_mem_nil, or_false] at hk
    rcases hk with rfl | rfl
    · exact ⟨_, rfl, .inl rfl⟩
    · exact ⟨_, rfl, .inr rfl⟩
  obtain ⟨kk, rfl, hkk⟩ := hk'
  have ev4 : mV 4 (EE a0 (some (pen, .o)) a2 a3 (some (.lst (sl cs), t)) a5 a6 a7 a8 a9 a10 a11 a12 a13 a14 a15 a16 a17 a18 a19 a20) = .ok (.lst (sl cs)) false (EE a0 (some (pen, .o)) a2 a3 (some (.lst (sl cs), .s)) a5 a6 a7 a8 a9 a10 a11 a12 a13 a14 a15 a16 a17 a18 a19 a20) := by
    cases t <;> first | rfl | exact absurd rfl ht
  have em : mCallIO c__law_mixed 1 [mV 4] [] (EE a0 (some (pen, .o)) a2 a3 (some (.lst (sl cs), t)) a5 a6 a7 a8 a9 a10 a11 a12 a13 a14 a15 a16 a17 a18 a19 a20) = .ok (.lst (sl ms)) true (EE a0 (some (pen1, .o)) a2 a3 (some (.lst (sl cs), .s)) a5 a6 a7 a8 a9 a10 a11 a12 a13 a14 a15 a16 a17 a18 a19 a20) :=
    ev_callIO (t := .o) (dds := []) (x := pen) rfl (ev_cons ev4 ev_nil) rfl (by decide) e1
  have el : mLc (.nm 6) [6] (itSq (mCallIO c__law_mixed 1 [mV 4] [])) keyT (mV 6) (EE a0 (some (pen, .o)) a2 a3 (some (.lst (sl cs), t)) a5 a6 a7 a8 a9 a10 a11 a12 a13 a14 a15 a16 a17 a18 a19 a20) = .ok (.lst (sl ks)) true (EE a0 (some (pen2, .o)) a2 a3 (some (.lst (sl cs), .s)) a5 none a7 a8 a9 a10 a11 a12 a13 a14 a15 a16 a17 a18 a19 a20) := by
    unfold mLc itSq bindI
    rw [show decide (0 ∉ [6]) = true from rfl, em]
    exact e2
  have ep : mCallIO c__law_pick 1 [mLst [mC (.str "heap"), mC (.str "set")]] [] (EE a0 (some (pen2, .o)) a2 a3 (some (.lst (sl cs), .s)) a5 none a7 a8 a9 a10 a11 a12 a13 a14 a15 a16 a17 a18 a19 a20) = .ok (.str kk) false (EE a0 (some (pen3, .o)) a2 a3 (some (.lst (sl cs), .s)) a5 none a7 a8 a9 a10 a11 a12 a13 a14 a15 a16 a17 a18 a19 a20) :=
    ev_callIO (t := .o) (dds := []) (x := pen2) (x0 := pen2) (t0 := .o) (ds := [.lst [.str "heap", .str "set"]]) (e := EE a0 (some (pen2, .o)) a2 a3 (some (.lst (sl cs), .s)) a5 none a7 a8 a9 a10 a11 a12 a13 a14 a15 a16 a17 a18 a19 a20) (i := 1) rfl rfl rfl (by decide) e3
  refine ⟨ks, kk, pen3, ev_un (ev_tup (ev_cons el (ev_cons ep ev_nil))) (tg2 h7 h8), fun h => (hperm.nodup_iff.mpr h).sublist hs, fun s h => hperm.mem_iff.mp (hs.subset h), ?_, hkk, ?_⟩
  · have := hs.length_le; rw [hperm.length_eq] at this; exact this
  · rw [hperm.length_eq] at hp3; exact hp3.mono (by omega)
end
end K01

set_option Elab.async false
set_option linter.all false
set_option maxRecDepth 100000
set_option maxHeartbeats 1000000
/-! K01M13: the table made, shown, compared. -/
namespace K01
open PySem DL LamX
theorem sort_perm_eq {a b : List Str} (h : a.Perm b) : sSort a = sSort b :=
  List.Perm.eq_of_pairwise (fun a b _ _ => sLe_anti) (sSort_sorted a) (sSort_sorted b) ((sSort_perm a).trans (h.trans (sSort_perm b).symm))
theorem noLst_sl : ∀ ss : List Str, noLstL (sl ss) = true
  | [] => rfl
  | s :: r => by
    show (noLst (.str s) && noLstL (sl r)) = true
    rw [noLst_sl r]
    rfl
theorem noLst_tbl (n k : Str) (cs us : List Str) : noLstL [.str n, .tup (sl cs), .tup (sl us), .str k] = true := by
  simp [noLstL, noLst, noLst_sl]
section
variable {a0 a1 a2 a5 a6 a9 a10 a11 a12 a13 a14 a15 a16 a17 a18 a19 a20 : Sl} {n k : Str} {cs ks : List Str}
/-- some, own = list(columns), list(keys) -/
theorem stC (h9 : Fr a9) (h10 : Fr a10) : mPar 9 10 (mO1 listQ (.pl 4)) (mO1 listQ (.pl 7)) (EE a0 a1 a2 (some (.str n, .s)) (some (.lst (sl cs), .s)) a5 a6 (some (.lst (sl ks), .s)) (some (.str k, .s)) a9 a10 a11 a12 a13 a14 a15 a16 a17 a18 a19 a20) = .nx (EE a0 a1 a2 (some (.str n, .s)) (some (.lst (sl cs), .s)) a5 a6 (some (.lst (sl ks), .s)) (some (.str k, .s)) (some (.lst (sl cs), .o)) (some (.lst (sl ks), .o)) a11 a12 a13 a14 a15 a16 a17 a18 a19 a20) := by
  have f9 : freeE (EE a0 a1 a2 (some (.str n, .s)) (some (.lst (sl cs), .s)) a5 a6 (some (.lst (sl ks), .s)) (some (.str k, .s)) a9 a10 a11 a12 a13 a14 a15 a16 a17 a18 a19 a20) 9 = true := h9
  have f10 : freeE (EE a0 a1 a2 (some (.str n, .s)) (some (.lst (sl cs), .s)) a5 a6 (some (.lst (sl ks), .s)) (some (.str k, .s)) a9 a10 a11 a12 a13 a14 a15 a16 a17 a18 a19 a20) 10 = true := h10
  show (match freeE (EE a0 a1 a2 (some (.str n, .s)) (some (.lst (sl cs), .s)) a5 a6 (some (.lst (sl ks), .s)) (some (.str k, .s)) a9 a10 a11 a12 a13 a14 a15 a16 a17 a18 a19 a20) 9 && (freeE (EE a0 a1 a2 (some (.str n, .s)) (some (.lst (sl cs), .s)) a5 a6 (some (.lst (sl ks), .s)) (some (.str k, .s)) a9 a10 a11 a12 a13 a14 a15 a16 a17 a18 a19 a20) 10 && decide (9 ≠ 10)) with
    | true => RS.nx _
    | false => .bad) = _
  rw [f9, f10]
  rfl
/-- table = Table(kind=kind, unique=own, columns=some, name=name) -/
theorem stD (hn : NameOk n) (hc : ColsOk cs) (hu : KeysOk ks cs) (hk : KindOk k) (h11 : Fr a11) : mSet 11 (mMakeK c_Table___init__ 0 [8, 10, 9, 3] permK) (EE a0 a1 a2 (some (.str n, .s)) (some (.lst (sl cs), .s)) a5 a6 (some (.lst (sl ks), .s)) (some (.str k, .s)) (some (.lst (sl cs), .o)) (some (.lst (sl ks), .o)) a11 a12 a13 a14 a15 a16 a17 a18 a19 a20) = .nx (EE a0 a1 a2 (some (.str n, .s)) (some (.lst (sl cs), .s)) a5 a6 (some (.lst (sl ks), .s)) (some (.str k, .s)) (some (.lst (sl cs), .o)) (some (.lst (sl ks), .o)) (some (tbl n cs ks k, .o)) a12 a13 a14 a15 a16 a17 a18 a19 a20) := by
  refine ev_set (o := true) (d := tbl n cs ks k) (e := EE a0 a1 a2 (some (.str n, .s)) (some (.lst (sl cs), .s)) a5 a6 (some (.lst (sl ks), .s)) (some (.str k, .s)) (some (.lst (sl cs), .o)) (some (.lst (sl ks), .o)) a11 a12 a13 a14 a15 a16 a17 a18 a19 a20) ?_ h11
  show (match c_Table___init__ [.obj 0 [], .str n, .lst (sl cs), .lst (sl ks), .str k] with
      | .ok d _ (some f) => (match d, f with
        | .non, .obj n fs => (match noLstL fs with
          | true => RE.ok (.obj n fs) true _
          | false => .bad)
        | _, _ => .bad)
      | _ => .bad) = _
  rw [init_ok hn hc hu hk (.inl rfl) (.inl rfl)]
  show (match noLstL [.str n, .tup (sl cs), .tup (sl (sSort ks)), .str k] with
          | true => RE.ok _ true _
          | false => .bad) = _
  rw [noLst_tbl]
  rfl
/-- some.append('x'); own.append('x') -/
theorem stE {a3 a4 a7 a8 : Sl} (hl : cs.length ≤ 100) : mExpr (mMt 9 appendP [mC (.str "x")]) (EE a0 a1 a2 a3 a4 a5 a6 a7 a8 (some (.lst (sl cs), .o)) a10 a11 a12 a13 a14 a15 a16 a17 a18 a19 a20) = .nx (EE a0 a1 a2 a3 a4 a5 a6 a7 a8 (some (.lst (sl (cs ++ [("x" : Str)])), .o)) a10 a11 a12 a13 a14 a15 a16 a17 a18 a19 a20) := by
  refine ev_expr (d := .non) (o := false) ?_
  exact ev_mt (t0 := .o) (t := .o) (xs := sl cs) rfl (by decide) (ev_cons (o := false) rfl ev_nil) rfl (by decide) (append_s (by omega))
theorem stF {a3 a4 a7 a8 : Sl} (hl : ks.length ≤ 100) : mExpr (mMt 10 appendP [mC (.str "x")]) (EE a0 a1 a2 a3 a4 a5 a6 a7 a8 a9 (some (.lst (sl ks), .o)) a11 a12 a13 a14 a15 a16 a17 a18 a19 a20) = .nx (EE a0 a1 a2 a3 a4 a5 a6 a7 a8 a9 (some (.lst (sl (ks ++ [("x" : Str)])), .o)) a11 a12 a13 a14 a15 a16 a17 a18 a19 a20) := by
  refine ev_expr (d := .non) (o := false) ?_
  exact ev_mt (t0 := .o) (t := .o) (xs := sl ks) rfl (by decide) (ev_cons (o := false) rfl ev_nil) rfl (by decide) (append_s (by omega))
end
end K01

set_option Elab.async false
set_option linter.all false
set_option maxRecDepth 100000
set_option maxHeartbeats 1000000
/-! K01M14: the table shown by repr, and compared. -/
namespace K01
open PySem DL LamX
theorem ev_rpr {env e1 e2 : EV} {m1 m2 : ME} {x : D} {o1 o2 neg : Bool} {p : PyData} (h1 : m1 env = .ok x o1 e1) (h2 : m2 e1 = .ok x o2 e2) (hr : isRoot x = true) (hp : pyD x = some p) (hk : rprOk p = true) : mRpr neg m1 m2 env = .ok (.bl (!neg)) false e2 := by
  unfold mRpr bindE
  simp only [h1]
  rw [if_pos ⟨hr, p, hp, hk⟩]
  simp only [h2, if_true]
theorem ev_own {env e1 e2 : EV} {m1 m2 : ME} {y : D} {o1 o2 o neg : Bool} {c : FN} {ls oks : List Nat} {n : Nat} {fs : List D} {b : Bool} {f : Option D} (h1 : m1 env = .ok (.obj n fs) o1 e1) (h2 : m2 e1 = .ok y o2 e2) (hl : (ls.contains n && rightOk oks n y) = true) (hc : c [.obj n fs, y] = .ok (.bl b) o f) : mOwn neg c ls oks m1 m2 env = .ok (.bl (if neg then !b else b)) false e2 := by
  unfold mOwn bindE
  simp only [h1, h2, hl]
  unfold ownE
  simp only [hc]
theorem pyL_sl : ∀ ss : List Str, pyL (sl ss) = some (ss.map PyData.str)
  | [] => by simp [sl, pyL]
  | s :: r => by
    have ih := pyL_sl r
    unfold sl at ih
    simp [sl, pyL, pyD, ih]
theorem show_sl : ∀ ss : List Str, PyData.showableAll (ss.map PyData.str) = true
  | [] => by simp [PyData.showableAll]
  | s :: r => by simp [PyData.showableAll, PyData.showable, show_sl r]
theorem dep_sl : ∀ ss : List Str, PyData.depthAll (ss.map PyData.str) ≤ 1
  | [] => by simp [PyData.depthAll]
  | s :: r => by
    have := dep_sl r
    simp only [List.map_cons, PyData.depthAll, PyData.depth]
    omega
theorem short_s {s : Str} (h : NameOk s) : PyData.leavesShort 8 (.str s) = true := by
  simp only [PyData.leavesShort, List.all_eq_true, decide_eq_true_eq]
  intro c hc
  have h1 := (h.2.2 c hc).2
  have h2 : (122 : Nat) < 16 ^ 8 := by decide
  omega
theorem short_sl : ∀ ss : List Str, (∀ s ∈ ss, NameOk s) → PyData.leavesShortAll 8 (ss.map PyData.str) = true
  | [], _ => by simp [PyData.leavesShortAll]
  | s :: r, h => by
    simp only [List.map_cons, PyData.leavesShortAll, short_s (h s List.mem_cons_self), short_sl r fun x hx => h x (List.mem_cons_of_mem _ hx), Bool.and_self]
theorem bulk_s {s : Str} (h : NameOk s) : PyData.bulk (.str s) ≤ 8 := by
  have := h.2.1
  simp only [PyData.bulk]
  simpa using this
theorem bulk_sl : ∀ ss : List Str, (∀ s ∈ ss, NameOk s) → PyData.bulkAll (ss.map PyData.str) ≤ 9 * ss.length
  | [], _ => by simp [PyData.bulkAll]
  | s :: r, h => by
    have h1 := bulk_s (h s List.mem_cons_self)
    have h2 := bulk_sl r fun x hx => h x (List.mem_cons_of_mem _ hx)
    simp only [List.map_cons, PyData.bulkAll, List.length_cons]
    omega
theorem kind_name {k : Str} (h : KindOk k) : NameOk k := by
  rcases h with rfl | rfl
  · exact ⟨by decide, by decide, by decide⟩
  · exact ⟨by decide, by decide, by decide⟩
theorem rpr_tbl {n k : Str} {cs us : List Str} (hn : NameOk n) (hc : ∀ s ∈ cs, NameOk s) (hu : ∀ s ∈ us, NameOk s) (hl : cs.length ≤ 5) (hl2 : us.length ≤ 5) (hk : KindOk k) : ∃ p, pyD (.lst [.str n, .tup (sl cs), .tup (sl us), .str k]) = some p ∧ rprOk p = true := by
  refine ⟨.list [.str n, .tuple (cs.map .str), .tuple (us.map .str), .str k], by simp [pyD, pyL, pyL_sl], ?_⟩
  unfold rprOk
  rw [Bool.and_eq_true, Bool.and_eq_true, decide_eq_true_eq, decide_eq_true_eq]
  refine ⟨by simp [PyData.showable, PyData.showableAll, show_sl], ?_, ?_⟩
  · have h1 := dep_sl cs
    have h2 := dep_sl us
    simp only [PyData.depth, PyData.depthAll]
    omega
  · refine PyData.shown_fits_bulk (B := 8) (by decide) (by decide) ?_ ?_
    · simp only [PyData.leavesShort, PyData.leavesShortAll, short_sl cs hc, short_sl us hu]
      have h1 := short_s hn
      have h2 := short_s (kind_name hk)
      simp only [PyData.leavesShort] at h1 h2
      simp [h1, h2]
    · have h1 := bulk_sl cs hc
      have h2 := bulk_sl us hu
      have h3 := bulk_s hn
      have h4 := bulk_s (kind_name hk)
      simp only [PyData.bulk] at h3 h4
      simp only [PyData.bulk, PyData.bulkAll]
      have : (2 : Nat) ^ 20 = 1048576 := by decide
      omega
section
variable {a0 a1 a2 a5 a6 a9 a10 a12 a13 a14 a15 a16 a17 a18 a19 a20 : Sl} {n k : Str} {cs ks : List Str} {t : Tag}
theorem sub_sort {us cs : List Str} (h : ∀ s ∈ us, s ∈ cs) : ∀ s ∈ sSort us, s ∈ cs := fun s hs => h s ((sSort_perm us).mem_iff.mp hs)
/-- repr of the four -/
theorem stG (hn : NameOk n) (hc : ColsOk cs) (hu : KeysOk ks cs) (hk : KindOk k) : mIfS (mT (mRpr true (mLst [mO1 (attrP ix_name) (.pl 11), mO1 (attrP ix_columns) (.pl 11), mO1 (attrP ix_unique) (.pl 11), mO1 (attrP ix_kind) (.pl 11)]) (mLst [mV 3, mO1 tupleP (.pl 4), mO1 tupleP (.ex (mO1 sortQ (.pl 7))), mV 8]))) (mRet (mC (.bl false))) (mNext) (EE a0 a1 a2 (some (.str n, .s)) (some (.lst (sl cs), .s)) a5 a6 (some (.lst (sl ks), .s)) (some (.str k, .s)) a9 a10 (some (tbl n cs ks k, t)) a12 a13 a14 a15 a16 a17 a18 a19 a20) = .nx (EE a0 a1 a2 (some (.str n, .s)) (some (.lst (sl cs), .s)) a5 a6 (some (.lst (sl ks), .s)) (some (.str k, .s)) a9 a10 (some (tbl n cs ks k, t)) a12 a13 a14 a15 a16 a17 a18 a19 a20) := by
  obtain ⟨p, hp, hr⟩ := rpr_tbl (us := sSort ks) hn hc.nm (fun s hs => hc.nm s (sub_sort hu.sub s hs)) hc.le (by rw [(sSort_perm ks).length_eq]; exact hu.le) hk
  refine ev_ifN (ev_T (ev_rpr (neg := true) (o1 := true) (o2 := true) (p := p) (x := .lst [.str n, .tup (sl cs), .tup (sl (sSort ks)), .str k]) rfl ?_ rfl hp hr))
  exact ev_lst (ev_cons (ev_vs rfl) (ev_cons (ev_p (t := .s) (o := false) rfl rfl) (ev_cons (ev_x (o := false) (ev_p (t := .s) (x := .lst (sl ks)) rfl (sortQ_s (.inl rfl) (by have := hu.le; omega))) rfl) (ev_cons (ev_vs rfl) ev_nil))))
theorem nd_rev {l : List Str} (h : l.Nodup) : l.reverse.Nodup := List.pairwise_reverse.mpr (h.imp fun e z => e z.symm)
theorem rev_sl (ss : List Str) : (sl ss).reverse = sl ss.reverse := by simp [sl]
theorem rev_keys {us cs : List Str} (h : KeysOk us cs) : KeysOk us.reverse cs :=
  ⟨nd_rev h.nd, fun s hs => h.sub s (List.mem_reverse.mp hs), by rw [List.length_reverse]; exact h.le⟩
theorem rev_cols {cs : List Str} (h : ColsOk cs) : ColsOk cs.reverse :=
  ⟨nd_rev h.nd, fun s hs => h.nm s (List.mem_reverse.mp hs), by rw [List.length_reverse]; exact h.ge, by rw [List.length_reverse]; exact h.le⟩
theorem no_keys (cs : List Str) : KeysOk [] cs := ⟨.nil, fun _ h => (nomatch h), Nat.zero_le _⟩
/-- the three comparisons -/
theorem stH (hn : NameOk n) (hc : ColsOk cs) (hu : KeysOk ks cs) (hk : KindOk k) : mIfS (mOrT (mT (mOwn true c_Table___eq__ [0] [0] (mV 11) (mMake c_Table___init__ 0 [mV 3, mO1 tupleP (.pl 4), mO1 tupleP (.ex (mO1 revP (.pl 7))), mV 8] []))) (mOrT (mT (mOwn false c_Table___eq__ [0] [0] (mV 11) (mTup [mV 3, mO1 tupleP (.pl 4), mO1 tupleP (.ex (mO1 sortQ (.pl 7))), mV 8]))) (mT (mOwn true c_Table___eq__ [0] [0] (mMake c_Table___init__ 0 [mV 3, mV 4] [.tup [], .str "heap"]) (mMake c_Table___init__ 0 [mV 3, mV 4, mTup [], mC (.str "heap")] []))))) (mRet (mC (.bl false))) (mNext) (EE a0 a1 a2 (some (.str n, .s)) (some (.lst (sl cs), .s)) a5 a6 (some (.lst (sl ks), .s)) (some (.str k, .s)) a9 a10 (some (tbl n cs ks k, .o)) a12 a13 a14 a15 a16 a17 a18 a19 a20) = .nx (EE a0 a1 a2 (some (.str n, .s)) (some (.lst (sl cs), .s)) a5 a6 (some (.lst (sl ks), .s)) (some (.str k, .s)) a9 a10 (some (tbl n cs ks k, .s)) a12 a13 a14 a15 a16 a17 a18 a19 a20) := by
  let E : EV := EE a0 a1 a2 (some (.str n, .s)) (some (.lst (sl cs), .s)) a5 a6 (some (.lst (sl ks), .s)) (some (.str k, .s)) a9 a10 (some (tbl n cs ks k, .s)) a12 a13 a14 a15 a16 a17 a18 a19 a20
  have m1 : mMake c_Table___init__ 0 [mV 3, mO1 tupleP (.pl 4), mO1 tupleP (.ex (mO1 revP (.pl 7))), mV 8] [] E = .ok (tbl n cs ks.reverse k) true E := by
    refine ev_make (dds := []) (ev_cons (ev_vs rfl) (ev_cons (ev_p (t := .s) (o := false) rfl rfl) (ev_cons (ev_x (o := false) (ev_p (t := .s) (x := .lst (sl ks)) rfl rfl) rfl) (ev_cons (ev_vs rfl) ev_nil)))) ?_
    rw [rev_sl]
    exact init_ok hn hc (rev_keys hu) hk (.inr rfl) (.inr rfl)
  have e1 : c_Table___eq__ [tbl n cs ks k, tbl n cs ks.reverse k] = .ok (.bl true) false none := by
    rw [eq_ok, sort_perm_eq (List.reverse_perm ks)]
    simp
  have t1 : mT (mOwn true c_Table___eq__ [0] [0] (mV 11) (mMake c_Table___init__ 0 [mV 3, mO1 tupleP (.pl 4), mO1 tupleP (.ex (mO1 revP (.pl 7))), mV 8] [])) (EE a0 a1 a2 (some (.str n, .s)) (some (.lst (sl cs), .s)) a5 a6 (some (.lst (sl ks), .s)) (some (.str k, .s)) a9 a10 (some (tbl n cs ks k, .o)) a12 a13 a14 a15 a16 a17 a18 a19 a20) = .ok false E :=
    ev_T (o := false) (ev_own (neg := true) (b := true) (ev_vo rfl) m1 rfl e1)
  have m2 : mTup [mV 3, mO1 tupleP (.pl 4), mO1 tupleP (.ex (mO1 sortQ (.pl 7))), mV 8] E = .ok (.tup [.str n, .tup (sl cs), .tup (sl (sSort ks)), .str k]) false E :=
    ev_tup (ev_cons (ev_vs rfl) (ev_cons (ev_p (t := .s) (o := false) rfl rfl) (ev_cons (ev_x (o := false) (ev_p (t := .s) (x := .lst (sl ks)) rfl (sortQ_s (.inl rfl) (by have := hu.le; omega))) rfl) (ev_cons (ev_vs rfl) ev_nil))))
  have t2 : mT (mOwn false c_Table___eq__ [0] [0] (mV 11) (mTup [mV 3, mO1 tupleP (.pl 4), mO1 tupleP (.ex (mO1 sortQ (.pl 7))), mV 8])) E = .ok false E :=
    ev_T (o := false) (ev_own (neg := false) (b := false) (ev_vs rfl) m2 rfl (eq_tup n k cs ks _))
  have m3 : mMake c_Table___init__ 0 [mV 3, mV 4] [.tup [], .str "heap"] E = .ok (tbl n cs [] "heap") true E :=
    ev_make (dds := [.tup [], .str "heap"]) (ev_cons (ev_vs rfl) (ev_cons (ev_vs rfl) ev_nil)) (init_ok hn hc (no_keys cs) (.inl rfl) (.inl rfl) (.inr rfl))
  have m4 : mMake c_Table___init__ 0 [mV 3, mV 4, mTup [], mC (.str "heap")] [] E = .ok (tbl n cs [] "heap") true E :=
    ev_make (dds := []) (ev_cons (ev_vs rfl) (ev_cons (ev_vs rfl) (ev_cons (ev_tup ev_nil) (ev_cons (o := false) rfl ev_nil)))) (init_ok hn hc (no_keys cs) (.inl rfl) (.inl rfl) (.inr rfl))
  have e3 : c_Table___eq__ [tbl n cs [] "heap", tbl n cs [] "heap"] = .ok (.bl true) false none := by
    rw [eq_ok]
    simp
  have t3 : mT (mOwn true c_Table___eq__ [0] [0] (mMake c_Table___init__ 0 [mV 3, mV 4] [.tup [], .str "heap"]) (mMake c_Table___init__ 0 [mV 3, mV 4, mTup [], mC (.str "heap")] [])) E = .ok false E :=
    ev_T (o := false) (ev_own (neg := true) (b := true) m3 m4 rfl e3)
  exact ev_ifN ((ev_orF t1).trans ((ev_orF t2).trans t3))
end
end K01

set_option Elab.async false
set_option linter.all false
set_option maxRecDepth 100000
set_option maxHeartbeats 1000000
/-! K01M15: the other Tables. -/
namespace K01
open PySem DL LamX
theorem eq_no {n n' k k' : Str} {cs cs' us us' : List Str} (h : n ≠ n' ∨ cs ≠ cs' ∨ sSort us ≠ sSort us' ∨ k ≠ k') : c_Table___eq__ [tbl n cs us k, tbl n' cs' us' k'] = .ok (.bl false) false none := by
  rw [eq_ok]
  rcases h with h | h | h | h <;> simp [h]
theorem rev_ne {cs : List Str} (hn : cs.Nodup) (hl : 1 < cs.length) : cs.reverse ≠ cs := by
  intro e
  have h1 : cs.reverse[0]? = cs[0]? := by rw [e]
  rw [List.getElem?_reverse (by omega)] at h1
  have h2 : cs.length - 1 - 0 = 0 := (List.getElem?_inj (by omega) hn).mp h1
  omega
theorem sort_ne_nil {cs us : List Str} (h : us = []) (h2 : cs ≠ []) : sSort cs ≠ sSort us := by
  subst h
  intro e
  have := congrArg List.length e
  rw [(sSort_perm cs).length_eq, (sSort_perm []).length_eq] at this
  exact h2 (List.length_eq_zero_iff.mp this)
section
variable {a0 a1 a2 a5 a6 a9 a10 a12 a14 a15 a16 a17 a18 a19 a20 : Sl} {n k : Str} {cs ks : List Str}
def Other (T x : D) : Prop := ∃ fs, x = .obj 0 fs ∧ noLstL fs = true ∧ (∃ n cs us k, T = tbl n cs us k) ∧ c_Table___eq__ [x, T] = .ok (.bl false) false none
theorem Other.of {n n' k k' : Str} {cs cs' us us' : List Str} (h : n ≠ n' ∨ cs ≠ cs' ∨ sSort us ≠ sSort us' ∨ k ≠ k') : Other (tbl n' cs' us' k') (tbl n cs us k) :=
  ⟨_, rfl, noLst_tbl _ _ _ _, ⟨_, _, _, _, rfl⟩, eq_no h⟩
abbrev E11 (a0 a1 a2 : Sl) (n : Str) (cs : List Str) (a5 a6 : Sl) (ks : List Str) (k : Str) (a9 a10 a12 a13 a14 a15 a16 a17 a18 a19 a20 : Sl) : EV := EE a0 a1 a2 (some (.str n, .s)) (some (.lst (sl cs), .s)) a5 a6 (some (.lst (sl ks), .s)) (some (.str k, .s)) a9 a10 (some (tbl n cs ks k, .s)) a12 a13 a14 a15 a16 a17 a18 a19 a20
/-- others = [..] -/
theorem stI {a13 : Sl} (hn : NameOk n) (hc : ColsOk cs) (hu : KeysOk ks cs) (hk : KindOk k) (h12 : Fr a12) : ∃ ds, (∀ d ∈ ds, Other (tbl n cs ks k) d) ∧ ds.length = 3 ∧ mSet 12 (mLst [mMake c_Table___init__ 0 [mIf (mT (mO2 neP (.pl 3) (.ex (mC (.str "x"))))) (mC (.str "x")) (mC (.str "y")), mV 4, mV 7, mV 8] [], mMake c_Table___init__ 0 [mV 3, mV 4, mV 7, mIf (mT (mO2 eqP (.pl 8) (.ex (mC (.str "heap"))))) (mC (.str "set")) (mC (.str "heap"))] [], mMake c_Table___init__ 0 [mV 3, mV 4, mIf (mT (mO2 eqP (.pl 7) (.ex (mLst [])))) (mV 4) (mLst []), mV 8] []]) (E11 a0 a1 a2 n cs a5 a6 ks k a9 a10 a12 a13 a14 a15 a16 a17 a18 a19 a20) = .nx (E11 a0 a1 a2 n cs a5 a6 ks k a9 a10 (some (.lst ds, .o)) a13 a14 a15 a16 a17 a18 a19 a20) := by
  let E : EV := E11 a0 a1 a2 n cs a5 a6 ks k a9 a10 a12 a13 a14 a15 a16 a17 a18 a19 a20
  -- the other name
  have x1 : ∃ n1, n1 ≠ n ∧ NameOk n1 ∧ mIf (mT (mO2 neP (.pl 3) (.ex (mC (.str "x"))))) (mC (.str "x")) (mC (.str "y")) E = .ok (.str n1) false E := by
    have t : mT (mO2 neP (.pl 3) (.ex (mC (.str "x")))) E = .ok (!(n == ("x" : Str))) E := ev_T (o := false) (ev_px (t := .s) (t' := .s) (x0 := .str n) (o2 := false) (y := .str "x") rfl rfl rfl rfl)
    by_cases h : n = ("x" : Str)
    · refine ⟨"y", by rw [h]; decide, ⟨by decide, by decide, by decide⟩, (ev_ifE t).trans ?_⟩
      rw [h]; rfl
    · have h2 : (n == ("x" : Str)) = false := by simpa using h
      refine ⟨"x", fun e => h e.symm, ⟨by decide, by decide, by decide⟩, (ev_ifE t).trans ?_⟩
      rw [h2]; rfl
  have x2 : ∃ k1, k1 ≠ k ∧ KindOk k1 ∧ mIf (mT (mO2 eqP (.pl 8) (.ex (mC (.str "heap"))))) (mC (.str "set")) (mC (.str "heap")) E = .ok (.str k1) false E := by
    have t : mT (mO2 eqP (.pl 8) (.ex (mC (.str "heap")))) E = .ok (k == ("heap" : Str)) E := ev_T (o := false) (ev_px (t := .s) (t' := .s) (x0 := .str k) (o2 := false) (y := .str "heap") rfl rfl rfl rfl)
    rcases hk with hk | hk
    · refine ⟨"set", by rw [hk]; decide, .inr rfl, (ev_ifE t).trans ?_⟩
      rw [hk]; rfl
    · refine ⟨"heap", by rw [hk]; decide, .inl rfl, (ev_ifE t).trans ?_⟩
      rw [hk]; rfl
  have x3 : ∃ us o, sSort us ≠ sSort ks ∧ KeysOk us cs ∧ mIf (mT (mO2 eqP (.pl 7) (.ex (mLst [])))) (mV 4) (mLst []) E = .ok (.lst (sl us)) o E := by
    have hp : eqP (.lst (sl ks)) (.lst []) = some (.bl (decide (ks = [])), false) := by
      unfold eqP
      rw [okDepStrs, eqD_nilS]
      rfl
    have t : mT (mO2 eqP (.pl 7) (.ex (mLst []))) E = .ok (decide (ks = [])) E := ev_T (o := false) (ev_px (t := .s) (t' := .s) (x0 := .lst (sl ks)) (o2 := true) (y := .lst []) rfl rfl rfl hp)
    by_cases h : ks = []
    · refine ⟨cs, false, sort_ne_nil h (fun z => ?_), ⟨hc.nd, fun _ h => h, hc.le⟩, (ev_ifE t).trans ?_⟩
      · have := hc.ge; rw [z] at this; cases this
      · rw [decide_eq_true h]; rfl
    · refine ⟨[], true, fun e => sort_ne_nil rfl h e.symm, no_keys cs, (ev_ifE t).trans ?_⟩
      rw [decide_eq_false h]; rfl
  obtain ⟨n1, hn1, on1, e1⟩ := x1
  obtain ⟨k1, hk1, ok1, e2⟩ := x2
  obtain ⟨us, o, hus, ous, e3⟩ := x3
  have hv : SeqS (.lst (sl cs)) cs := .inl rfl
  have hv2 : SeqS (.lst (sl ks)) ks := .inl rfl
  refine ⟨[tbl n1 cs ks k, tbl n cs ks k1, tbl n cs us k], ?_, rfl, ?_⟩
  · intro d hd
    simp only [List.mem_cons, List.not_mem_nil, or_false] at hd
    rcases hd with rfl | rfl | rfl
    · exact Other.of (.inl hn1)
    · exact Other.of (.inr (.inr (.inr hk1)))
    · exact Other.of (.inr (.inr (.inl hus)))
  · have h12' : freeE (E11 a0 a1 a2 n cs a5 a6 ks k a9 a10 a12 a13 a14 a15 a16 a17 a18 a19 a20) 12 = true := h12
    refine ev_set (o := true) (ev_lst (ds := [tbl n1 cs ks k, tbl n cs ks k1, tbl n cs us k]) (ev_cons (ev_make (dds := []) (ev_cons e1 (ev_cons (ev_vs rfl) (ev_cons (ev_vs rfl) (ev_cons (ev_vs rfl) ev_nil)))) (init_ok on1 hc hu hk hv hv2)) (ev_cons (ev_make (dds := []) (ev_cons (ev_vs rfl) (ev_cons (ev_vs rfl) (ev_cons (ev_vs rfl) (ev_cons e2 ev_nil)))) (init_ok hn hc hu ok1 hv hv2)) (ev_cons (ev_make (dds := []) (ev_cons (ev_vs rfl) (ev_cons (ev_vs rfl) (ev_cons e3 (ev_cons (ev_vs rfl) ev_nil)))) (init_ok hn hc ous hk hv (.inl rfl))) ev_nil)))) h12'
/-- if len(columns) > 1: others.append(..) -/
theorem stI2 {a13 : Sl} {ds : List D} (hn : NameOk n) (hc : ColsOk cs) (hu : KeysOk ks cs) (hk : KindOk k) (hd : ∀ d ∈ ds, Other (tbl n cs ks k) d) (hl : ds.length = 3) : ∃ ds', (∀ d ∈ ds', Other (tbl n cs ks k) d) ∧ mIfS (mT (mO2 (cmpP fun i j => decide (j < i)) (.ex (mO1 lenP (.pl 4))) (.ex (mC (.int 1))))) (mExpr (mMt 12 appendP [mMake c_Table___init__ 0 [mV 3, mO1 revP (.pl 4), mV 7, mV 8] []])) (mNext) (E11 a0 a1 a2 n cs a5 a6 ks k a9 a10 (some (.lst ds, .o)) a13 a14 a15 a16 a17 a18 a19 a20) = .nx (E11 a0 a1 a2 n cs a5 a6 ks k a9 a10 (some (.lst ds', .o)) a13 a14 a15 a16 a17 a18 a19 a20) := by
  have t : mT (mO2 (cmpP fun i j => decide (j < i)) (.ex (mO1 lenP (.pl 4))) (.ex (mC (.int 1)))) (E11 a0 a1 a2 n cs a5 a6 ks k a9 a10 (some (.lst ds, .o)) a13 a14 a15 a16 a17 a18 a19 a20) = .ok (decide (1 < ((sl cs).length : Int))) (E11 a0 a1 a2 n cs a5 a6 ks k a9 a10 (some (.lst ds, .o)) a13 a14 a15 a16 a17 a18 a19 a20) := rfl
  have hlen : (sl cs).length = cs.length := by simp [sl]
  rw [hlen] at t
  by_cases h : 1 < cs.length
  · refine ⟨ds ++ [tbl n cs.reverse ks k], ?_, ?_⟩
    · intro d h2
      rcases List.mem_append.mp h2 with h2 | h2
      · exact hd d h2
      · rw [List.mem_singleton] at h2
        subst h2
        exact Other.of (.inr (.inl (rev_ne hc.nd h)))
    · rw [decide_eq_true (by omega : 1 < (cs.length : Int))] at t
      refine (ev_ifT t).trans ?_
      have hu' : KeysOk ks cs.reverse := ⟨hu.nd, fun s hs => List.mem_reverse.mpr (hu.sub s hs), hu.le⟩
      have m : mMake c_Table___init__ 0 [mV 3, mO1 revP (.pl 4), mV 7, mV 8] [] (E11 a0 a1 a2 n cs a5 a6 ks k a9 a10 (some (.lst ds, .o)) a13 a14 a15 a16 a17 a18 a19 a20) = .ok (tbl n cs.reverse ks k) true (E11 a0 a1 a2 n cs a5 a6 ks k a9 a10 (some (.lst ds, .o)) a13 a14 a15 a16 a17 a18 a19 a20) := by
        refine ev_make (dds := []) (ev_cons (ev_vs rfl) (ev_cons (ev_p (t := .s) (x := .lst (sl cs)) (o := true) rfl rfl) (ev_cons (ev_vs rfl) (ev_cons (ev_vs rfl) ev_nil)))) ?_
        rw [rev_sl]
        exact init_ok hn (rev_cols hc) hu' hk (.inl rfl) (.inl rfl)
      have ha : appendP (.lst ds) [tbl n cs.reverse ks k] = some (.lst (ds ++ [tbl n cs.reverse ks k]), .non) := by
        show (match decide (ds.length < sizeLine) with | true => some (D.lst (ds ++ [tbl n cs.reverse ks k]), D.non) | false => none) = _
        rw [decide_eq_true (by rw [sizeLine_eq]; omega)]
      exact ev_expr (ev_mt (t0 := .o) (t := .o) (xs := ds) rfl (by decide) (ev_cons m ev_nil) rfl (by decide) ha)
  · refine ⟨ds, hd, ?_⟩
    rw [decide_eq_false (by omega : ¬ 1 < (cs.length : Int))] at t
    exact ev_ifN t
theorem othLoop : ∀ (ds : List D) {a12 a13 : Sl}, Fr a13 → (∀ d ∈ ds, Other (tbl n cs ks k) d) → lcE (.nm 13) [13] (mT (mOwn false c_Table___eq__ [0] [0] (mV 13) (mV 11))) (mV 13) ds [] (E11 a0 a1 a2 n cs a5 a6 ks k a9 a10 a12 a13 a14 a15 a16 a17 a18 a19 a20) = .ok (.lst []) true (E11 a0 a1 a2 n cs a5 a6 ks k a9 a10 a12 none a14 a15 a16 a17 a18 a19 a20)
  | [], a12, a13, _, _ => rfl
  | d :: r, a12, a13, h13, h => by
    obtain ⟨fs, rfl, _, _, he⟩ := h d List.mem_cons_self
    have t : mT (mOwn false c_Table___eq__ [0] [0] (mV 13) (mV 11)) (E11 a0 a1 a2 n cs a5 a6 ks k a9 a10 a12 (some (.obj 0 fs, .s)) a14 a15 a16 a17 a18 a19 a20) = .ok false (E11 a0 a1 a2 n cs a5 a6 ks k a9 a10 a12 (some (.obj 0 fs, .s)) a14 a15 a16 a17 a18 a19 a20) :=
      ev_T (o := false) (ev_own (neg := false) (b := false) (ev_vs rfl) (ev_vs rfl) rfl he)
    have st : lcE (.nm 13) [13] (mT (mOwn false c_Table___eq__ [0] [0] (mV 13) (mV 11))) (mV 13) (.obj 0 fs :: r) [] (E11 a0 a1 a2 n cs a5 a6 ks k a9 a10 a12 a13 a14 a15 a16 a17 a18 a19 a20) = (match mT (mOwn false c_Table___eq__ [0] [0] (mV 13) (mV 11)) (E11 a0 a1 a2 n cs a5 a6 ks k a9 a10 a12 (some (.obj 0 fs, .s)) a14 a15 a16 a17 a18 a19 a20) with
      | .ok true e1 => (match mV 13 e1 with
        | .ok d' _ e2 => lcE (.nm 13) [13] (mT (mOwn false c_Table___eq__ [0] [0] (mV 13) (mV 11))) (mV 13) r ([] ++ [d']) e2
        | _ => .bad)
      | .ok false e1 => lcE (.nm 13) [13] (mT (mOwn false c_Table___eq__ [0] [0] (mV 13) (mV 11))) (mV 13) r [] e1
      | _ => .bad) := rfl
    rw [st, t]
    exact othLoop r (Fr.s _) fun x hx => h x (List.mem_cons_of_mem _ hx)
/-- none of them is like the table -/
theorem stI3 {a13 : Sl} {ds : List D} (h13 : Fr a13) (hd : ∀ d ∈ ds, Other (tbl n cs ks k) d) : mIfS (mT (mO2 neP (.ex (mLc (.nm 13) [13] (itSq (mV 12)) (mT (mOwn false c_Table___eq__ [0] [0] (mV 13) (mV 11))) (mV 13))) (.ex (mLst [])))) (mRet (mC (.bl false))) (mNext) (E11 a0 a1 a2 n cs a5 a6 ks k a9 a10 (some (.lst ds, .o)) a13 a14 a15 a16 a17 a18 a19 a20) = .nx (E11 a0 a1 a2 n cs a5 a6 ks k a9 a10 (some (.lst ds, .s)) none a14 a15 a16 a17 a18 a19 a20) := by
  have e : mLc (.nm 13) [13] (itSq (mV 12)) (mT (mOwn false c_Table___eq__ [0] [0] (mV 13) (mV 11))) (mV 13) (E11 a0 a1 a2 n cs a5 a6 ks k a9 a10 (some (.lst ds, .o)) a13 a14 a15 a16 a17 a18 a19 a20) = .ok (.lst []) true (E11 a0 a1 a2 n cs a5 a6 ks k a9 a10 (some (.lst ds, .s)) none a14 a15 a16 a17 a18 a19 a20) := by
    have it : itSq (mV 12) (E11 a0 a1 a2 n cs a5 a6 ks k a9 a10 (some (.lst ds, .o)) a13 a14 a15 a16 a17 a18 a19 a20) = .ok ds (E11 a0 a1 a2 n cs a5 a6 ks k a9 a10 (some (.lst ds, .s)) a13 a14 a15 a16 a17 a18 a19 a20) := rfl
    unfold mLc
    rw [show decide (0 ∉ [13]) = true from rfl, it]
    exact othLoop ds h13 hd
  exact ev_ifN (ev_T (o := false) (ev_xx e (o2 := true) (y := .lst []) rfl rfl))
end
end K01

set_option Elab.async false
set_option linter.all false
set_option maxRecDepth 100000
set_option maxHeartbeats 1000000
/-! K01M16: the bad values are drawn; what is heard. -/
namespace K01
open PySem DL LamX
theorem len_le_sub : ∀ {ws cs : List Str}, ws.Nodup → (∀ w ∈ ws, w ∈ cs) → ws.length ≤ cs.length
  | [], _, _, _ => Nat.zero_le _
  | w :: r, cs, hn, hs => by
    have hw := hs w List.mem_cons_self
    have h1 := len_le_sub (ws := r) (cs := cs.erase w) (List.nodup_cons.mp hn).2 fun x hx => by
      have ne : x ≠ w := fun e => (List.nodup_cons.mp hn).1 (e ▸ hx)
      exact (List.mem_erase_of_ne ne).mpr (hs x (List.mem_cons_of_mem _ hx))
    rw [List.length_erase_of_mem hw] at h1
    have h2 := List.length_pos_of_mem hw
    rw [List.length_cons]
    omega
def fars : List Str := ["za", "zb", "zc", "zd", "ze", "zf"]
theorem fars_nd : fars.Nodup := by decide
theorem fars_ok : ∀ s ∈ fars, NameOk s := by
  intro s h
  simp only [fars, List.mem_cons, List.not_mem_nil, or_false] at h
  rcases h with rfl | rfl | rfl | rfl | rfl | rfl <;> exact ⟨by decide, by decide, by decide⟩
section
variable {a0 a2 a3 a5 a6 a7 a8 a9 a10 a11 a12 a13 a14 a15 a16 a17 a18 a19 a20 : Sl} {pen : D} {T : Nat} {cs : List Str}
theorem stJ14 {a4 : Sl} (h14 : Fr a14) (hp : PenOk T pen) (hT : T ≤ 1000000) : ∃ x pen', mSet 14 (mCallIO c__law_pick 1 [mLst [mC .non, mC (.int 5), mC (.str ""), mC (.str "A"), mC (.str "a1"), mC (.str "a b"), mC (.str "abcdefghi"), mLst [mC (.str "a")], mTup [mC (.str "a")], mC (.bl true), mC (.str "a_")]] []) (EE a0 (some (pen, .o)) a2 a3 a4 a5 a6 a7 a8 a9 a10 a11 a12 a13 a14 a15 a16 a17 a18 a19 a20) = .nx (EE a0 (some (pen', .o)) a2 a3 a4 a5 a6 a7 a8 a9 a10 a11 a12 a13 (some (x, .s)) a15 a16 a17 a18 a19 a20) ∧ x ∈ bads ∧ PenOk (T + 1) pen' := by
  obtain ⟨x, pen', e, hx, hp'⟩ := pick_ok (xs := bads) hp hT (by simp [bads]) (by simp [bads])
  refine ⟨x, pen', ?_, hx, hp'⟩
  exact ev_set (o := false) (ev_callIO (t := .o) (t0 := .o) (dds := []) (ds := [.lst bads]) (x := pen) (x0 := pen) (i := 1) (e := EE a0 (some (pen, .o)) a2 a3 a4 a5 a6 a7 a8 a9 a10 a11 a12 a13 a14 a15 a16 a17 a18 a19 a20) rfl rfl rfl (by decide) e) h14
theorem stJ15 {a4 : Sl} (h15 : Fr a15) (hp : PenOk T pen) (hT : T ≤ 1000000) : ∃ x pen', mSet 15 (mCallIO c__law_pick 1 [mLst [mC .non, mC (.int 5), mTup [], mLst [], mC (.str "ab"), mDct [(mC (.str "a"), mC (.int 1))], mLst [mC (.str "a"), mC (.str "a")], mLst [mC (.str "a"), mC (.str "")], mLst [mC (.str "a"), mC .non], mLst [mC (.str "abcdefghi")], mLst [mC (.str "a"), mC (.str "b"), mC (.str "c"), mC (.str "d"), mC (.str "e"), mC (.str "f")], mLst [mLst [mC (.str "a")]]]] []) (EE a0 (some (pen, .o)) a2 a3 a4 a5 a6 a7 a8 a9 a10 a11 a12 a13 a14 a15 a16 a17 a18 a19 a20) = .nx (EE a0 (some (pen', .o)) a2 a3 a4 a5 a6 a7 a8 a9 a10 a11 a12 a13 a14 (some (x, .s)) a16 a17 a18 a19 a20) ∧ x ∈ odds ∧ PenOk (T + 1) pen' := by
  obtain ⟨x, pen', e, hx, hp'⟩ := pick_ok (xs := odds) hp hT (by simp [odds]) (by simp [odds])
  refine ⟨x, pen', ?_, hx, hp'⟩
  exact ev_set (o := false) (ev_callIO (t := .o) (t0 := .o) (dds := []) (ds := [.lst odds]) (x := pen) (x0 := pen) (i := 1) (e := EE a0 (some (pen, .o)) a2 a3 a4 a5 a6 a7 a8 a9 a10 a11 a12 a13 a14 a15 a16 a17 a18 a19 a20) rfl rfl rfl (by decide) e) h15
theorem farLoop {a1 : Sl} : ∀ (ws acc : List Str) {a17 : Sl}, Fr a17 → lcE (.nm 17) [17] (mT (mO2 (inP true) (.pl 17) (.pl 4))) (mV 17) (sl ws) (sl acc) (EE a0 a1 a2 a3 (some (.lst (sl cs), .s)) a5 a6 a7 a8 a9 a10 a11 a12 a13 a14 a15 a16 a17 a18 a19 a20) = .ok (.lst (sl (acc ++ ws.filter fun w => !decide (w ∈ cs)))) true (EE a0 a1 a2 a3 (some (.lst (sl cs), .s)) a5 a6 a7 a8 a9 a10 a11 a12 a13 a14 a15 a16 none a18 a19 a20)
  | [], acc, a17, _ => by
    rw [List.filter_nil, List.append_nil]
    rfl
  | w :: r, acc, a17, h17 => by
    have t : mT (mO2 (inP true) (.pl 17) (.pl 4)) (EE a0 a1 a2 a3 (some (.lst (sl cs), .s)) a5 a6 a7 a8 a9 a10 a11 a12 a13 a14 a15 a16 (some (.str w, .s)) a18 a19 a20) = .ok (xor true (decide (w ∈ cs))) (EE a0 a1 a2 a3 (some (.lst (sl cs), .s)) a5 a6 a7 a8 a9 a10 a11 a12 a13 a14 a15 a16 (some (.str w, .s)) a18 a19 a20) :=
      ev_T (o := false) (ev_pp (t := .s) (t' := .s) rfl rfl (in_seq (.inl rfl)))
    have st : lcE (.nm 17) [17] (mT (mO2 (inP true) (.pl 17) (.pl 4))) (mV 17) (sl (w :: r)) (sl acc) (EE a0 a1 a2 a3 (some (.lst (sl cs), .s)) a5 a6 a7 a8 a9 a10 a11 a12 a13 a14 a15 a16 a17 a18 a19 a20) = (match mT (mO2 (inP true) (.pl 17) (.pl 4)) (EE a0 a1 a2 a3 (some (.lst (sl cs), .s)) a5 a6 a7 a8 a9 a10 a11 a12 a13 a14 a15 a16 (some (.str w, .s)) a18 a19 a20) with
      | .ok true e1 => (match mV 17 e1 with
        | .ok d' _ e2 => lcE (.nm 17) [17] (mT (mO2 (inP true) (.pl 17) (.pl 4))) (mV 17) (sl r) (sl acc ++ [d']) e2
        | _ => .bad)
      | .ok false e1 => lcE (.nm 17) [17] (mT (mO2 (inP true) (.pl 17) (.pl 4))) (mV 17) (sl r) (sl acc) e1
      | _ => .bad) := rfl
    rw [st, t]
    by_cases h : w ∈ cs
    · rw [decide_eq_true h, List.filter_cons, decide_eq_true h]
      exact farLoop r acc (Fr.s _)
    · rw [decide_eq_false h, List.filter_cons, decide_eq_false h]
      have ea : sl acc ++ [D.str w] = sl (acc ++ [w]) := by simp [sl]
      have ih := farLoop (a1 := a1) r (acc ++ [w]) (a17 := some (.str w, .s)) (Fr.s _)
      show lcE (.nm 17) [17] (mT (mO2 (inP true) (.pl 17) (.pl 4))) (mV 17) (sl r) (sl acc ++ [D.str w]) _ = _
      rw [ea]
      refine ih.trans ?_
      simp
theorem stJ16 {a1 : Sl} (hl : cs.length ≤ 5) (h16 : Fr a16) (h17 : Fr a17) : ∃ far, far ∉ cs ∧ NameOk far ∧ mSet 16 (mO2 ixP (.ex (mLc (.nm 17) [17] (itSq (mTup [mC (.str "za"), mC (.str "zb"), mC (.str "zc"), mC (.str "zd"), mC (.str "ze"), mC (.str "zf")])) (mT (mO2 (inP true) (.pl 17) (.pl 4))) (mV 17))) (.ex (mC (.int 0)))) (EE a0 a1 a2 a3 (some (.lst (sl cs), .s)) a5 a6 a7 a8 a9 a10 a11 a12 a13 a14 a15 a16 a17 a18 a19 a20) = .nx (EE a0 a1 a2 a3 (some (.lst (sl cs), .s)) a5 a6 a7 a8 a9 a10 a11 a12 a13 a14 a15 (some (.str far, .s)) none a18 a19 a20) := by
  have e : mLc (.nm 17) [17] (itSq (mTup [mC (.str "za"), mC (.str "zb"), mC (.str "zc"), mC (.str "zd"), mC (.str "ze"), mC (.str "zf")])) (mT (mO2 (inP true) (.pl 17) (.pl 4))) (mV 17) (EE a0 a1 a2 a3 (some (.lst (sl cs), .s)) a5 a6 a7 a8 a9 a10 a11 a12 a13 a14 a15 a16 a17 a18 a19 a20) = .ok (.lst (sl ([] ++ fars.filter fun w => !decide (w ∈ cs)))) true (EE a0 a1 a2 a3 (some (.lst (sl cs), .s)) a5 a6 a7 a8 a9 a10 a11 a12 a13 a14 a15 a16 none a18 a19 a20) := by
    have it : itSq (mTup [mC (.str "za"), mC (.str "zb"), mC (.str "zc"), mC (.str "zd"), mC (.str "ze"), mC (.str "zf")]) (EE a0 a1 a2 a3 (some (.lst (sl cs), .s)) a5 a6 a7 a8 a9 a10 a11 a12 a13 a14 a15 a16 a17 a18 a19 a20) = .ok (sl fars) (EE a0 a1 a2 a3 (some (.lst (sl cs), .s)) a5 a6 a7 a8 a9 a10 a11 a12 a13 a14 a15 a16 a17 a18 a19 a20) := rfl
    unfold mLc
    rw [show decide (0 ∉ [17]) = true from rfl, it]
    exact farLoop fars [] h17
  rw [List.nil_append] at e
  cases q : fars.filter (fun w => !decide (w ∈ cs)) with
  | nil =>
    have : fars.length ≤ cs.length := len_le_sub fars_nd fun w hw => by
      have := List.filter_eq_nil_iff.mp q w hw
      simpa using this
    have h6 : fars.length = 6 := rfl
    omega
  | cons far r =>
    rw [q] at e
    have hm : far ∈ fars.filter (fun w => !decide (w ∈ cs)) := by rw [q]; exact List.mem_cons_self
    obtain ⟨h1, h2⟩ := List.mem_filter.mp hm
    refine ⟨far, by simpa using h2, fars_ok far h1, ?_⟩
    exact ev_set (o := false) (ev_xx e (o2 := false) (y := .int 0) rfl (ixP_l (by decide) rfl)) h16
theorem stJ18 {c0 far : Str} {r : List Str} (hc : cs = c0 :: r) (h18 : Fr a18) (hp : PenOk T pen) (hT : T ≤ 1000000) : ∃ x pen', mSet 18 (mCallIO c__law_pick 1 [mLst [mC .non, mC (.int 5), mC (.str "a"), mO2 ixP (.pl 4) (.ex (mC (.int 0))), mDct [(mC (.str "a"), mC (.int 1))], mLst [mO2 ixP (.pl 4) (.ex (mC (.int 0))), mO2 ixP (.pl 4) (.ex (mC (.int 0)))], mLst [mV 16], mLst [mC .non], mLst [mLst [mO2 ixP (.pl 4) (.ex (mC (.int 0)))]]]] []) (EE a0 (some (pen, .o)) a2 a3 (some (.lst (sl cs), .s)) a5 a6 a7 a8 a9 a10 a11 a12 a13 a14 a15 (some (.str far, .s)) a17 a18 a19 a20) = .nx (EE a0 (some (pen', .o)) a2 a3 (some (.lst (sl cs), .s)) a5 a6 a7 a8 a9 a10 a11 a12 a13 a14 a15 (some (.str far, .s)) a17 (some (x, .s)) a19 a20) ∧ x ∈ aways c0 far ∧ PenOk (T + 1) pen' := by
  obtain ⟨x, pen', e, hx, hp'⟩ := pick_ok (xs := aways c0 far) hp hT (by simp [aways]) (by simp [aways])
  refine ⟨x, pen', ?_, hx, hp'⟩
  let E : EV := EE a0 (some (pen, .o)) a2 a3 (some (.lst (sl cs), .s)) a5 a6 a7 a8 a9 a10 a11 a12 a13 a14 a15 (some (.str far, .s)) a17 a18 a19 a20
  have e0 : mO2 ixP (.pl 4) (.ex (mC (.int 0))) E = .ok (.str c0) false E :=
    ev_px (t := .s) (t' := .s) (x0 := .lst (sl cs)) (o2 := false) (y := .int 0) rfl rfl rfl (ixP_l (by decide) (by rw [hc]; rfl))
  obtain ⟨od, ed⟩ := dA_is E
  have el : evL [mLst [mC .non, mC (.int 5), mC (.str "a"), mO2 ixP (.pl 4) (.ex (mC (.int 0))), mDct [(mC (.str "a"), mC (.int 1))], mLst [mO2 ixP (.pl 4) (.ex (mC (.int 0))), mO2 ixP (.pl 4) (.ex (mC (.int 0)))], mLst [mV 16], mLst [mC .non], mLst [mLst [mO2 ixP (.pl 4) (.ex (mC (.int 0)))]]]] E = .ok [.lst (aways c0 far)] E :=
    ev_cons (ev_lst (ev_cons (o := false) rfl (ev_cons (o := false) rfl (ev_cons (o := false) rfl (ev_cons e0 (ev_cons ed (ev_cons (ev_lst (ev_cons e0 (ev_cons e0 ev_nil))) (ev_cons (ev_lst (ev_cons (ev_vs rfl) ev_nil)) (ev_cons (ev_lst (ev_cons (o := false) rfl ev_nil)) (ev_cons (ev_lst (ev_cons (ev_lst (ev_cons e0 ev_nil)) ev_nil)) ev_nil)))))))))) ev_nil
  exact ev_set (o := false) (ev_callIO (t := .o) (t0 := .o) (dds := []) (ds := [.lst (aways c0 far)]) (x := pen) (x0 := pen) (i := 1) (e := E) rfl el rfl (by decide) e) h18
theorem stJ19 {a4 : Sl} (h19 : Fr a19) (hp : PenOk T pen) (hT : T ≤ 1000000) : ∃ x pen', mSet 19 (mCallIO c__law_pick 1 [mLst [mC .non, mC (.int 5), mC (.str "Heap"), mC (.str ""), mC (.str "bag"), mC (.bl true), mTup [mC (.str "set")]]] []) (EE a0 (some (pen, .o)) a2 a3 a4 a5 a6 a7 a8 a9 a10 a11 a12 a13 a14 a15 a16 a17 a18 a19 a20) = .nx (EE a0 (some (pen', .o)) a2 a3 a4 a5 a6 a7 a8 a9 a10 a11 a12 a13 a14 a15 a16 a17 a18 (some (x, .s)) a20) ∧ x ∈ nones ∧ PenOk (T + 1) pen' := by
  obtain ⟨x, pen', e, hx, hp'⟩ := pick_ok (xs := nones) hp hT (by simp [nones]) (by simp [nones])
  refine ⟨x, pen', ?_, hx, hp'⟩
  exact ev_set (o := false) (ev_callIO (t := .o) (t0 := .o) (dds := []) (ds := [.lst nones]) (x := pen) (x0 := pen) (i := 1) (e := EE a0 (some (pen, .o)) a2 a3 a4 a5 a6 a7 a8 a9 a10 a11 a12 a13 a14 a15 a16 a17 a18 a19 a20) rfl rfl rfl (by decide) e) h19
end
/-! ### what is heard -/
theorem ev_heard {env e : EV} {mb : ME} {p : D} (h : mb (shOnly env) = .exc 1 [p] e) : mHeard hv__law_heard mb env = .ok (.tup [.str "table", p]) false env := by
  unfold mHeard
  rw [h]
  rfl
section
variable {a0 a1 a2 a5 a6 a9 a10 a11 a12 a13 a16 a17 a20 : Sl} {n k c0 far : Str} {cs ks : List Str} {bad odd away none : D}
abbrev EH (a0 a1 a2 : Sl) (n : Str) (cs : List Str) (a5 a6 : Sl) (ks : List Str) (k : Str) (a9 a10 a11 a12 a13 : Sl) (bad odd : D) (a16 a17 : Sl) (away none : D) (a20 : Sl) : EV := EE a0 a1 a2 (some (.str n, .s)) (some (.lst (sl cs), .s)) a5 a6 (some (.lst (sl ks), .s)) (some (.str k, .s)) a9 a10 a11 a12 a13 (some (bad, .s)) (some (odd, .s)) a16 a17 (some (away, .s)) (some (none, .s)) a20
def tp (w : Str) : D := .tup [.str "table", .str w]
theorem stK (hn : NameOk n) (hc : ColsOk cs) (h0 : NameOk c0) (hf : NameOk far) (hfar : far ∉ cs) (h1 : bad ∈ bads) (h2 : odd ∈ odds) (h3 : away ∈ aways c0 far) (h20 : Fr a20) : mSet 20 (mLst [mHeard hv__law_heard (mMake c_Table___init__ 0 [mV 14, mV 15, mV 18, mV 19] []), mHeard hv__law_heard (mMake c_Table___init__ 0 [mV 3, mV 15, mV 18, mV 19] []), mHeard hv__law_heard (mMake c_Table___init__ 0 [mV 3, mV 4, mV 18, mV 19] [])]) (EH a0 a1 a2 n cs a5 a6 ks k a9 a10 a11 a12 a13 bad odd a16 a17 away none a20) = .nx (EH a0 a1 a2 n cs a5 a6 ks k a9 a10 a11 a12 a13 bad odd a16 a17 away none (some (.lst [tp "name", tp "columns", tp "unique"], .o))) := by
  let E : EV := EH a0 a1 a2 n cs a5 a6 ks k a9 a10 a11 a12 a13 bad odd a16 a17 away none a20
  obtain ⟨f1, i1⟩ := init_name (v := odd) (u := away) (k := none) (bads_no bad h1)
  obtain ⟨f2, i2⟩ := init_cols (u := away) (k := none) hn (odds_no odd h2)
  obtain ⟨f3, i3⟩ := init_keys (v := .lst (sl cs)) (k := none) hn hc (.inl rfl) (aways_no h0 hf hfar away h3)
  have e1 : mHeard hv__law_heard (mMake c_Table___init__ 0 [mV 14, mV 15, mV 18, mV 19] []) E = .ok (tp "name") false E :=
    ev_heard (ev_makeX (dds := []) (ev_cons (ev_vs rfl) (ev_cons (ev_vs rfl) (ev_cons (ev_vs rfl) (ev_cons (ev_vs rfl) ev_nil)))) i1)
  have e2 : mHeard hv__law_heard (mMake c_Table___init__ 0 [mV 3, mV 15, mV 18, mV 19] []) E = .ok (tp "columns") false E :=
    ev_heard (ev_makeX (dds := []) (ev_cons (ev_vs rfl) (ev_cons (ev_vs rfl) (ev_cons (ev_vs rfl) (ev_cons (ev_vs rfl) ev_nil)))) i2)
  have e3 : mHeard hv__law_heard (mMake c_Table___init__ 0 [mV 3, mV 4, mV 18, mV 19] []) E = .ok (tp "unique") false E :=
    ev_heard (ev_makeX (dds := []) (ev_cons (ev_vs rfl) (ev_cons (ev_vs rfl) (ev_cons (ev_vs rfl) (ev_cons (ev_vs rfl) ev_nil)))) i3)
  exact ev_set (o := true) (ev_lst (ev_cons e1 (ev_cons e2 (ev_cons e3 ev_nil)))) h20
theorem stK2 (hn : NameOk n) (hc : ColsOk cs) (hu : KeysOk ks cs) (h4 : none ∈ nones) : mExpr (mMt 20 appendP [mHeard hv__law_heard (mMake c_Table___init__ 0 [mV 3, mV 4, mV 7, mV 19] [])]) (EH a0 a1 a2 n cs a5 a6 ks k a9 a10 a11 a12 a13 bad odd a16 a17 away none (some (.lst [tp "name", tp "columns", tp "unique"], .o))) = .nx (EH a0 a1 a2 n cs a5 a6 ks k a9 a10 a11 a12 a13 bad odd a16 a17 away none (some (.lst [tp "name", tp "columns", tp "unique", tp "kind"], .o))) := by
  obtain ⟨f1, i1⟩ := init_kind (v := .lst (sl cs)) (u := .lst (sl ks)) hn hc hu (.inl rfl) (.inl rfl) h4
  let E : EV := EH a0 a1 a2 n cs a5 a6 ks k a9 a10 a11 a12 a13 bad odd a16 a17 away none (some (.lst [tp "name", tp "columns", tp "unique"], .o))
  have e1 : mHeard hv__law_heard (mMake c_Table___init__ 0 [mV 3, mV 4, mV 7, mV 19] []) E = .ok (tp "kind") false E :=
    ev_heard (ev_makeX (dds := []) (ev_cons (ev_vs rfl) (ev_cons (ev_vs rfl) (ev_cons (ev_vs rfl) (ev_cons (ev_vs rfl) ev_nil)))) i1)
  have ha : appendP (.lst [tp "name", tp "columns", tp "unique"]) [tp "kind"] = some (.lst [tp "name", tp "columns", tp "unique", tp "kind"], .non) := by
    show (match decide (3 < sizeLine) with | true => some (D.lst [tp "name", tp "columns", tp "unique", tp "kind"], D.non) | false => Option.none) = _
    rw [decide_eq_true (by rw [sizeLine_eq]; omega)]
  exact ev_expr (ev_mt (t0 := .o) (t := .o) (xs := [tp "name", tp "columns", tp "unique"]) rfl (by decide) (ev_cons e1 ev_nil) rfl (by decide) ha)
theorem stK3 : mIfS (mT (mO2 neP (.pl 20) (.ex (mLst [mTup [mC (.str "table"), mC (.str "name")], mTup [mC (.str "table"), mC (.str "columns")], mTup [mC (.str "table"), mC (.str "unique")], mTup [mC (.str "table"), mC (.str "kind")]])))) (mRet (mC (.bl false))) (mNext) (EH a0 a1 a2 n cs a5 a6 ks k a9 a10 a11 a12 a13 bad odd a16 a17 away none (some (.lst [tp "name", tp "columns", tp "unique", tp "kind"], .o))) = .nx (EH a0 a1 a2 n cs a5 a6 ks k a9 a10 a11 a12 a13 bad odd a16 a17 away none (some (.lst [tp "name", tp "columns", tp "unique", tp "kind"], .o))) := by
  refine ev_ifN (ev_T (o := false) (ev_px (t := .o) (t' := .o) (x0 := .lst [tp "name", tp "columns", tp "unique", tp "kind"]) (o2 := true) (y := .lst [tp "name", tp "columns", tp "unique", tp "kind"]) rfl rfl rfl ?_))
  rfl
end
end K01

set_option Elab.async false
set_option linter.all false
set_option maxRecDepth 100000
set_option maxHeartbeats 1000000
/-! K01M17: the pen; one turn; the law. -/
namespace K01
open PySem DL LamX
theorem penLoop {a : Sl} : ∀ (ns acc : List Int) (z : Sl), freeE [z] 0 = true → lcE (.nm 1) [1] mYes (mO1 int1P (.pl 1)) (ns.map D.int) (acc.map D.int) [a, z] = .ok (.lst ((acc ++ ns).map D.int)) true [a, none]
  | [], acc, z, _ => by rw [List.append_nil]; rfl
  | i :: r, acc, z, hz => by
    have ea : acc.map D.int ++ [D.int i] = (acc ++ [i]).map D.int := by simp
    show lcE (.nm 1) [1] mYes (mO1 int1P (.pl 1)) (r.map D.int) (acc.map D.int ++ [D.int i]) [a, some (.int i, .s)] = _
    rw [ea, penLoop r (acc ++ [i]) _ rfl]
    simp
theorem pen_ok (ns : List Int) : ∃ pen, c__law_pen [.scr ns] = .ok pen true none ∧ PenOk 0 pen := by
  refine ⟨.lst [.lst ((cutI ns none (some 63)).map D.int), .int 0, .int 0], ?_, ⟨_, 0, 0, rfl, by omega, by omega⟩⟩
  have e : mLc (.nm 1) [1] (itSq (mSl (.pl 0) none (some (mC (.int 63))))) (mYes) (mO1 int1P (.pl 1)) [some (.scr ns, .s), none] = .ok (.lst ((cutI ns none (some 63)).map D.int)) true [some (.scr ns, .s), none] := by
    have it : itSq (mSl (.pl 0) none (some (mC (.int 63)))) [some (.scr ns, .s), none] = .ok ((cutI ns none (some 63)).map D.int) [some (.scr ns, .s), none] := rfl
    unfold mLc
    rw [show decide (0 ∉ [1]) = true from rfl, it]
    exact penLoop (cutI ns none (some 63)) [] none rfl
  have z : b__law_pen [some (.scr ns, .s), none] = .rt (.lst [.lst ((cutI ns none (some 63)).map D.int), .int 0, .int 0]) true [some (.scr ns, .s), none] :=
    ev_ret (ev_lst (ev_cons e (ev_cons (o := false) rfl (ev_cons (o := false) rfl ev_nil))))
  show (match b__law_pen [some (.scr ns, .s), none] with
    | .nx e => RC.ok .non false (finE false e)
    | .rt d o e => .ok d o (finE false e)
    | .exc c fs e => .exc c fs (finE false e)
    | _ => .bad) = _
  rw [z]
  rfl
/-- between two turns -/
structure Inv (a0 : Sl) (T : Nat) (e : EV) : Prop where
  ex : ∃ (pen : D) (a2 a3 a4 a5 a6 a7 a8 a9 a10 a11 a12 a13 a14 a15 a16 a17 a18 a19 a20 : Sl), e = EE a0 (some (pen, .o)) a2 a3 a4 a5 a6 a7 a8 a9 a10 a11 a12 a13 a14 a15 a16 a17 a18 a19 a20 ∧ PenOk T pen ∧ (∀ z ∈ [a2, a3, a4, a5, a6, a7, a8, a9, a10, a11, a12, a13, a14, a15, a16, a17, a18, a19, a20], Fr z)
abbrev colF : MS := mFor (.nm 5) (mRg1 (mO2 addP (.ex (mC (.int 1))) (.ex (mCallIO c__law_draw 1 [mC (.int 5)] [])))) colB
section
variable {a0 a2 a3 a5 a6 a7 a8 a9 a10 a11 a12 a13 a14 a15 a16 a17 a18 a19 a20 : Sl} {pen : D} {T : Nat}
theorem rng_len (j : Nat) : (rngD 0 (j : Int)).length = j := by
  unfold rngD
  simp
theorem stCols (h5 : Fr a5) (h6 : Fr a6) (hp : PenOk T pen) (hT : T + 100 ≤ 1000000) : ∃ (cs : List Str) (pen' : D) (b5 b6 : Sl) (t : Tag), colF (EE a0 (some (pen, .o)) a2 a3 (some (.lst (sl []), .s)) a5 a6 a7 a8 a9 a10 a11 a12 a13 a14 a15 a16 a17 a18 a19 a20) = .nx (EE a0 (some (pen', .o)) a2 a3 (some (.lst (sl cs), t)) b5 b6 a7 a8 a9 a10 a11 a12 a13 a14 a15 a16 a17 a18 a19 a20) ∧ ColsOk cs ∧ Fr b5 ∧ Fr b6 ∧ t ≠ .p ∧ PenOk (T + 46) pen' := by
  obtain ⟨q, pen1, e1, q0, q1, hp1⟩ := draw_ok (m := 5) hp (by omega) (by decide) (by decide)
  obtain ⟨j, rfl⟩ : ∃ j : Nat, q = j := ⟨q.toNat, by omega⟩
  have eN : mO2 addP (.ex (mC (.int 1))) (.ex (mCallIO c__law_draw 1 [mC (.int 5)] [])) (EE a0 (some (pen, .o)) a2 a3 (some (.lst (sl []), .s)) a5 a6 a7 a8 a9 a10 a11 a12 a13 a14 a15 a16 a17 a18 a19 a20) = .ok (.int (1 + (j : Int))) false (EE a0 (some (pen1, .o)) a2 a3 (some (.lst (sl []), .s)) a5 a6 a7 a8 a9 a10 a11 a12 a13 a14 a15 a16 a17 a18 a19 a20) :=
    ev_xx (x := .int 1) (o1 := false) (e1 := EE a0 (some (pen, .o)) a2 a3 (some (.lst (sl []), .s)) a5 a6 a7 a8 a9 a10 a11 a12 a13 a14 a15 a16 a17 a18 a19 a20) rfl (ev_callIO (t := .o) (dds := []) (x := pen) rfl (ev_cons (o := false) rfl ev_nil) rfl (by decide) e1) rfl
  have it : mRg1 (mO2 addP (.ex (mC (.int 1))) (.ex (mCallIO c__law_draw 1 [mC (.int 5)] []))) (EE a0 (some (pen, .o)) a2 a3 (some (.lst (sl []), .s)) a5 a6 a7 a8 a9 a10 a11 a12 a13 a14 a15 a16 a17 a18 a19 a20) = .ok (rngD 0 ((1 + j : Nat) : Int)) (EE a0 (some (pen1, .o)) a2 a3 (some (.lst (sl []), .s)) a5 a6 a7 a8 a9 a10 a11 a12 a13 a14 a15 a16 a17 a18 a19 a20) := by
    unfold mRg1 bindI
    rw [eN]
    show (match (match (decide (-(2 ^ 62) ≤ 1 + (j : Int)) && decide (1 + (j : Int) ≤ 16777216)) with | true => some (rngD 0 (1 + (j : Int))) | false => none) with
      | some ds => RI.ok ds _
      | none => .bad) = _
    rw [decide_eq_true (by omega), decide_eq_true (by omega)]
    have : 1 + (j : Int) = ((1 + j : Nat) : Int) := by omega
    rw [this]
    rfl
  have hl : (rngD 0 ((1 + j : Nat) : Int)).length = 1 + j := rng_len _
  obtain ⟨cs, pen2, b5, b6, t, e2, g1, g2, g3, g4, g5, g6, g7, g8⟩ := colLoop (a0 := a0) (a2 := a2) (a3 := a3) (a7 := a7) (a8 := a8) (a9 := a9) (a10 := a10) (a11 := a11) (a12 := a12) (a13 := a13) (a14 := a14) (a15 := a15) (a16 := a16) (a17 := a17) (a18 := a18) (a19 := a19) (a20 := a20) (rngD 0 ((1 + j : Nat) : Int)) (t := .s) (cs := []) (by decide) h5 h6 hp1 (by rw [hl]; omega) (by rw [hl, List.length_nil]; omega) .nil (fun _ h => (nomatch h))
  rw [hl] at g3 g8
  rw [List.length_nil] at g3
  refine ⟨cs, pen2, b5, b6, t, ?_, ⟨g1, g2, ?_, by omega⟩, g5, g6, g7, g8.mono (by omega)⟩
  · unfold colF mFor
    rw [it]
    exact e2
  · have := g4 (.inl fun z => by rw [z] at hl; rw [List.length_nil] at hl; omega)
    exact List.length_pos_iff.mpr this
end
end K01

set_option Elab.async false
set_option linter.all false
set_option maxRecDepth 100000
set_option maxHeartbeats 1000000
/-! K01M18: one turn; the law. Printed by k01m18.py. -/
namespace K01
open PySem DL LamX
noncomputable abbrev turnB : MS :=
    (mSeq (mUn (.tp [.nm 3, .nm 4]) (mTup [mCallIO c__law_name 1 [mC (.int 8)] [], mLst []]))
    (mSeq (mFor (.nm 5) (mRg1 (mO2 addP (.ex (mC (.int 1))) (.ex (mCallIO c__law_draw 1 [mC (.int 5)] []))))
    (mSeq (mSet 6 (mCallIO c__law_name 1 [mC (.int 8)] []))
    (mSet 4 (mO2 addP (.pl 4) (.ex (mIf (mT (mO2 (inP true) (.pl 6) (.pl 4))) (mLst [mV 6]) (mLst [])))))))
    (mSeq (mUn (.tp [.nm 7, .nm 8]) (mTup [mLc (.nm 6) [6] (itSq (mCallIO c__law_mixed 1 [mV 4] [])) (mT (mO2 eqP (.ex (mCallIO c__law_draw 1 [mC (.int 3)] [])) (.ex (mC (.int 0))))) (mV 6), mCallIO c__law_pick 1 [mLst [mC (.str "heap"), mC (.str "set")]] []]))
    (mSeq (mPar 9 10 (mO1 listQ (.pl 4)) (mO1 listQ (.pl 7)))
    (mSeq (mSet 11 (mMakeK c_Table___init__ 0 [8, 10, 9, 3] permK))
    (mSeq (mExpr (mMt 9 appendP [mC (.str "x")]))
    (mSeq (mExpr (mMt 10 appendP [mC (.str "x")]))
    (mSeq (mIfS (mT (mRpr true (mLst [mO1 (attrP ix_name) (.pl 11), mO1 (attrP ix_columns) (.pl 11), mO1 (attrP ix_unique) (.pl 11), mO1 (attrP ix_kind) (.pl 11)]) (mLst [mV 3, mO1 tupleP (.pl 4), mO1 tupleP (.ex (mO1 sortQ (.pl 7))), mV 8]))) (mRet (mC (.bl false))) (mNext))
    (mSeq (mIfS (mOrT (mT (mOwn true c_Table___eq__ [0] [0] (mV 11) (mMake c_Table___init__ 0 [mV 3, mO1 tupleP (.pl 4), mO1 tupleP (.ex (mO1 revP (.pl 7))), mV 8] []))) (mOrT (mT (mOwn false c_Table___eq__ [0] [0] (mV 11) (mTup [mV 3, mO1 tupleP (.pl 4), mO1 tupleP (.ex (mO1 sortQ (.pl 7))), mV 8]))) (mT (mOwn true c_Table___eq__ [0] [0] (mMake c_Table___init__ 0 [mV 3, mV 4] [.tup [], .str "heap"]) (mMake c_Table___init__ 0 [mV 3, mV 4, mTup [], mC (.str "heap")] []))))) (mRet (mC (.bl false))) (mNext))
    (mSeq (mSet 12 (mLst [mMake c_Table___init__ 0 [mIf (mT (mO2 neP (.pl 3) (.ex (mC (.str "x"))))) (mC (.str "x")) (mC (.str "y")), mV 4, mV 7, mV 8] [], mMake c_Table___init__ 0 [mV 3, mV 4, mV 7, mIf (mT (mO2 eqP (.pl 8) (.ex (mC (.str "heap"))))) (mC (.str "set")) (mC (.str "heap"))] [], mMake c_Table___init__ 0 [mV 3, mV 4, mIf (mT (mO2 eqP (.pl 7) (.ex (mLst [])))) (mV 4) (mLst []), mV 8] []]))
    (mSeq (mIfS (mT (mO2 (cmpP fun i j => decide (j < i)) (.ex (mO1 lenP (.pl 4))) (.ex (mC (.int 1))))) (mExpr (mMt 12 appendP [mMake c_Table___init__ 0 [mV 3, mO1 revP (.pl 4), mV 7, mV 8] []])) (mNext))
    (mSeq (mIfS (mT (mO2 neP (.ex (mLc (.nm 13) [13] (itSq (mV 12)) (mT (mOwn false c_Table___eq__ [0] [0] (mV 13) (mV 11))) (mV 13))) (.ex (mLst [])))) (mRet (mC (.bl false))) (mNext))
    (mSeq (mSet 14 (mCallIO c__law_pick 1 [mLst [mC .non, mC (.int 5), mC (.str ""), mC (.str "A"), mC (.str "a1"), mC (.str "a b"), mC (.str "abcdefghi"), mLst [mC (.str "a")], mTup [mC (.str "a")], mC (.bl true), mC (.str "a_")]] []))
    (mSeq (mSet 15 (mCallIO c__law_pick 1 [mLst [mC .non, mC (.int 5), mTup [], mLst [], mC (.str "ab"), mDct [(mC (.str "a"), mC (.int 1))], mLst [mC (.str "a"), mC (.str "a")], mLst [mC (.str "a"), mC (.str "")], mLst [mC (.str "a"), mC .non], mLst [mC (.str "abcdefghi")], mLst [mC (.str "a"), mC (.str "b"), mC (.str "c"), mC (.str "d"), mC (.str "e"), mC (.str "f")], mLst [mLst [mC (.str "a")]]]] []))
    (mSeq (mSet 16 (mO2 ixP (.ex (mLc (.nm 17) [17] (itSq (mTup [mC (.str "za"), mC (.str "zb"), mC (.str "zc"), mC (.str "zd"), mC (.str "ze"), mC (.str "zf")])) (mT (mO2 (inP true) (.pl 17) (.pl 4))) (mV 17))) (.ex (mC (.int 0)))))
    (mSeq (mSet 18 (mCallIO c__law_pick 1 [mLst [mC .non, mC (.int 5), mC (.str "a"), mO2 ixP (.pl 4) (.ex (mC (.int 0))), mDct [(mC (.str "a"), mC (.int 1))], mLst [mO2 ixP (.pl 4) (.ex (mC (.int 0))), mO2 ixP (.pl 4) (.ex (mC (.int 0)))], mLst [mV 16], mLst [mC .non], mLst [mLst [mO2 ixP (.pl 4) (.ex (mC (.int 0)))]]]] []))
    (mSeq (mSet 19 (mCallIO c__law_pick 1 [mLst [mC .non, mC (.int 5), mC (.str "Heap"), mC (.str ""), mC (.str "bag"), mC (.bl true), mTup [mC (.str "set")]]] []))
    (mSeq (mSet 20 (mLst [mHeard hv__law_heard (mMake c_Table___init__ 0 [mV 14, mV 15, mV 18, mV 19] []), mHeard hv__law_heard (mMake c_Table___init__ 0 [mV 3, mV 15, mV 18, mV 19] []), mHeard hv__law_heard (mMake c_Table___init__ 0 [mV 3, mV 4, mV 18, mV 19] [])]))
    (mSeq (mExpr (mMt 20 appendP [mHeard hv__law_heard (mMake c_Table___init__ 0 [mV 3, mV 4, mV 7, mV 19] [])]))
    (mIfS (mT (mO2 neP (.pl 20) (.ex (mLst [mTup [mC (.str "table"), mC (.str "name")], mTup [mC (.str "table"), mC (.str "columns")], mTup [mC (.str "table"), mC (.str "unique")], mTup [mC (.str "table"), mC (.str "kind")]])))) (mRet (mC (.bl false))) (mNext)))))))))))))))))))))
theorem turn_ok {a0 : Sl} {T : Nat} {e : EV} (h : Inv a0 T e) (hT : T + 200 ≤ 1000000) (d : D) : ∃ e1 e', setTg (.nm 2) d e = some e1 ∧ turnB e1 = .nx e' ∧ Inv a0 (T + 200) e' := by
  obtain ⟨pen, a2, a3, a4, a5, a6, a7, a8, a9, a10, a11, a12, a13, a14, a15, a16, a17, a18, a19, a20, rfl, hp, hf⟩ := h
  simp only [List.forall_mem_cons] at hf
  obtain ⟨h2, h3, h4, h5, h6, h7, h8, h9, h10, h11, h12, h13, h14, h15, h16, h17, h18, h19, h20, _⟩ := hf
  have f2 : freeE (EE a0 (some (pen, .o)) a2 a3 a4 a5 a6 a7 a8 a9 a10 a11 a12 a13 a14 a15 a16 a17 a18 a19 a20) 2 = true := h2
  refine ⟨EE a0 (some (pen, .o)) (some (d, .s)) a3 a4 a5 a6 a7 a8 a9 a10 a11 a12 a13 a14 a15 a16 a17 a18 a19 a20, ?_⟩
  obtain ⟨n, p1, sA, hn, hp⟩ := stA (a0 := a0) (a2 := some (d, .s)) (a5 := a5) (a6 := a6) (a7 := a7) (a8 := a8) (a9 := a9) (a10 := a10) (a11 := a11) (a12 := a12) (a13 := a13) (a14 := a14) (a15 := a15) (a16 := a16) (a17 := a17) (a18 := a18) (a19 := a19) (a20 := a20) h3 h4 hp (by omega)
  obtain ⟨cs, p2, b5, b6, t, sC, hc, h5, h6, ht, hp⟩ := stCols (a0 := a0) (a2 := some (d, .s)) (a3 := some (.str n, .s)) (a7 := a7) (a8 := a8) (a9 := a9) (a10 := a10) (a11 := a11) (a12 := a12) (a13 := a13) (a14 := a14) (a15 := a15) (a16 := a16) (a17 := a17) (a18 := a18) (a19 := a19) (a20 := a20) h5 h6 hp (by omega)
  obtain ⟨ks, k, p3, sB, hk1, hk2, hk3, hk, hp⟩ := stB (a0 := a0) (a2 := some (d, .s)) (a3 := some (.str n, .s)) (a5 := b5) (a9 := a9) (a10 := a10) (a11 := a11) (a12 := a12) (a13 := a13) (a14 := a14) (a15 := a15) (a16 := a16) (a17 := a17) (a18 := a18) (a19 := a19) (a20 := a20) ht h6 h7 h8 hp (by omega) hc.le
  have hu : KeysOk ks cs := ⟨hk1 hc.nd, hk2, Nat.le_trans hk3 hc.le⟩
  obtain ⟨ds, hds, hdl, sI⟩ := stI (a0 := a0) (a1 := some (p3, .o)) (a2 := some (d, .s)) (a5 := b5) (a6 := none) (a9 := some (.lst (sl (cs ++ [("x" : Str)])), .o)) (a10 := some (.lst (sl (ks ++ [("x" : Str)])), .o)) (a13 := a13) (a14 := a14) (a15 := a15) (a16 := a16) (a17 := a17) (a18 := a18) (a19 := a19) (a20 := a20) hn hc hu hk h12
  obtain ⟨ds', hds', sI2⟩ := stI2 (a0 := a0) (a1 := some (p3, .o)) (a2 := some (d, .s)) (a5 := b5) (a6 := none) (a9 := some (.lst (sl (cs ++ [("x" : Str)])), .o)) (a10 := some (.lst (sl (ks ++ [("x" : Str)])), .o)) (a13 := a13) (a14 := a14) (a15 := a15) (a16 := a16) (a17 := a17) (a18 := a18) (a19 := a19) (a20 := a20) hn hc hu hk hds hdl
  obtain ⟨bad, p4, s14, hbad, hp⟩ := stJ14 (a0 := a0) (a2 := some (d, .s)) (a3 := some (.str n, .s)) (a4 := some (.lst (sl cs), .s)) (a5 := b5) (a6 := none) (a7 := some (.lst (sl ks), .s)) (a8 := some (.str k, .s)) (a9 := some (.lst (sl (cs ++ [("x" : Str)])), .o)) (a10 := some (.lst (sl (ks ++ [("x" : Str)])), .o)) (a11 := some (tbl n cs ks k, .s)) (a12 := some (.lst ds', .s)) (a13 := none) (a15 := a15) (a16 := a16) (a17 := a17) (a18 := a18) (a19 := a19) (a20 := a20) h14 hp (by omega)
  obtain ⟨odd, p5, s15, hodd, hp⟩ := stJ15 (a0 := a0) (a2 := some (d, .s)) (a3 := some (.str n, .s)) (a4 := some (.lst (sl cs), .s)) (a5 := b5) (a6 := none) (a7 := some (.lst (sl ks), .s)) (a8 := some (.str k, .s)) (a9 := some (.lst (sl (cs ++ [("x" : Str)])), .o)) (a10 := some (.lst (sl (ks ++ [("x" : Str)])), .o)) (a11 := some (tbl n cs ks k, .s)) (a12 := some (.lst ds', .s)) (a13 := none) (a14 := some (bad, .s)) (a16 := a16) (a17 := a17) (a18 := a18) (a19 := a19) (a20 := a20) h15 hp (by omega)
  obtain ⟨far, hfar, hfn, s16⟩ := stJ16 (a0 := a0) (a1 := some (p5, .o)) (a2 := some (d, .s)) (a3 := some (.str n, .s)) (a5 := b5) (a6 := none) (a7 := some (.lst (sl ks), .s)) (a8 := some (.str k, .s)) (a9 := some (.lst (sl (cs ++ [("x" : Str)])), .o)) (a10 := some (.lst (sl (ks ++ [("x" : Str)])), .o)) (a11 := some (tbl n cs ks k, .s)) (a12 := some (.lst ds', .s)) (a13 := none) (a14 := some (bad, .s)) (a15 := some (odd, .s)) (a18 := a18) (a19 := a19) (a20 := a20) hc.le h16 h17
  obtain ⟨c0, r, hcr⟩ : ∃ c0 r, cs = c0 :: r := by
    have := hc.ge
    cases cs with
    | nil => cases this
    | cons a b => exact ⟨a, b, rfl⟩
  have hc0 : NameOk c0 := hc.nm c0 (by rw [hcr]; exact List.mem_cons_self)
  obtain ⟨away, p6, s18, haway, hp⟩ := stJ18 (a0 := a0) (a2 := some (d, .s)) (a3 := some (.str n, .s)) (a5 := b5) (a6 := none) (a7 := some (.lst (sl ks), .s)) (a8 := some (.str k, .s)) (a9 := some (.lst (sl (cs ++ [("x" : Str)])), .o)) (a10 := some (.lst (sl (ks ++ [("x" : Str)])), .o)) (a11 := some (tbl n cs ks k, .s)) (a12 := some (.lst ds', .s)) (a13 := none) (a14 := some (bad, .s)) (a15 := some (odd, .s)) (a17 := none) (a19 := a19) (a20 := a20) (far := far) hcr h18 hp (by omega)
  obtain ⟨non, p7, s19, hnon, hp⟩ := stJ19 (a0 := a0) (a2 := some (d, .s)) (a3 := some (.str n, .s)) (a4 := some (.lst (sl cs), .s)) (a5 := b5) (a6 := none) (a7 := some (.lst (sl ks), .s)) (a8 := some (.str k, .s)) (a9 := some (.lst (sl (cs ++ [("x" : Str)])), .o)) (a10 := some (.lst (sl (ks ++ [("x" : Str)])), .o)) (a11 := some (tbl n cs ks k, .s)) (a12 := some (.lst ds', .s)) (a13 := none) (a14 := some (bad, .s)) (a15 := some (odd, .s)) (a16 := some (.str far, .s)) (a17 := none) (a18 := some (away, .s)) (a20 := a20) h19 hp (by omega)
  refine ⟨EE a0 (some (p7, .o)) (some (d, .s)) (some (.str n, .s)) (some (.lst (sl cs), .s)) b5 none (some (.lst (sl ks), .s)) (some (.str k, .s)) (some (.lst (sl (cs ++ [("x" : Str)])), .o)) (some (.lst (sl (ks ++ [("x" : Str)])), .o)) (some (tbl n cs ks k, .s)) (some (.lst ds', .s)) none (some (bad, .s)) (some (odd, .s)) (some (.str far, .s)) none (some (away, .s)) (some (non, .s)) (some (.lst [tp "name", tp "columns", tp "unique", tp "kind"], .o)), ?_, ?_, ?_⟩
  · unfold setTg
    simp only [f2]
    rfl
  · refine (ev_seq sA).trans ?_
    refine (ev_seq sC).trans ?_
    refine (ev_seq sB).trans ?_
    refine (ev_seq (stC h9 h10)).trans ?_
    refine (ev_seq (stD hn hc hu hk h11)).trans ?_
    refine (ev_seq (stE (by have := hc.le; omega))).trans ?_
    refine (ev_seq (stF (by have := hu.le; omega))).trans ?_
    refine (ev_seq (stG hn hc hu hk)).trans ?_
    refine (ev_seq (stH hn hc hu hk)).trans ?_
    refine (ev_seq sI).trans ?_
    refine (ev_seq sI2).trans ?_
    refine (ev_seq (stI3 h13 hds')).trans ?_
    refine (ev_seq s14).trans ?_
    refine (ev_seq s15).trans ?_
    refine (ev_seq s16).trans ?_
    refine (ev_seq s18).trans ?_
    refine (ev_seq s19).trans ?_
    refine (ev_seq (stK (far := far) hn hc hc0 hfn hfar hbad hodd haway h20)).trans ?_
    refine (ev_seq (stK2 hn hc hu hnon)).trans ?_
    exact stK3
  · refine ⟨p7, _, _, _, _, _, _, _, _, _, _, _, _, _, _, _, _, _, _, _, rfl, hp.mono (by omega), ?_⟩
    simp only [List.forall_mem_cons]
    exact ⟨rfl, rfl, rfl, h5, rfl, rfl, rfl, rfl, rfl, rfl, rfl, rfl, rfl, rfl, rfl, rfl, rfl, rfl, rfl, fun _ h => (nomatch h)⟩
theorem turns_ok {a0 : Sl} : ∀ (ds : List D) {T : Nat} {e : EV}, Inv a0 T e → T + 200 * ds.length ≤ 1000000 → ∃ e', forE (.nm 2) turnB ds e = .nx e'
  | [], _, e, _, _ => ⟨e, rfl⟩
  | d :: r, T, e, h, hT => by
    rw [List.length_cons] at hT
    obtain ⟨e1, e2, s1, s2, h2⟩ := turn_ok h (by omega) d
    obtain ⟨e3, s3⟩ := turns_ok r h2 (by omega)
    refine ⟨e3, ?_⟩
    unfold forE
    rw [s1]
    show (match turnB e1 with
      | .nx e' => forE (.nm 2) turnB r e'
      | .ct e' => forE (.nm 2) turnB r e'
      | .bk e' => .nx e'
      | .rt d o e' => .rt d o e'
      | .exc c fs e' => .exc c fs e'
      | .bad => .bad) = _
    rw [s2]
    exact s3
theorem law_true (ns : List Int) (h : ns.length ≤ 63) : ∃ f, mkFn n_law.length false b_law [.scr ns] = .ok (.bl true) false f := by
  obtain ⟨pen, ep, hp⟩ := pen_ok ns
  let E0 : EV := EE (some (.scr ns, .s)) none none none none none none none none none none none none none none none none none none none none
  let E1 : EV := EE (some (.scr ns, .s)) (some (pen, .o)) none none none none none none none none none none none none none none none none none none none
  have s1 : mSet 1 (mCall c__law_pen [mV 0] []) E0 = .nx E1 := ev_set (o := true) (ev_call (dds := []) (ev_cons (ev_vs rfl) ev_nil) ep) rfl
  have i1 : Inv (some (.scr ns, .s)) 0 E1 := ⟨pen, _, _, _, _, _, _, _, _, _, _, _, _, _, _, _, _, _, _, _, rfl, hp, by simp only [List.forall_mem_cons]; exact ⟨rfl, rfl, rfl, rfl, rfl, rfl, rfl, rfl, rfl, rfl, rfl, rfl, rfl, rfl, rfl, rfl, rfl, rfl, rfl, fun _ h => (nomatch h)⟩⟩
  obtain ⟨e', s2⟩ := turns_ok (rngD 0 8) i1 (by decide)
  have z : b_law E0 = .rt (.bl true) false e' := by
    unfold b_law
    refine (ev_seq s1).trans ?_
    have s3 : mFor (.nm 2) (mRg1 (mC (.int 8))) turnB E1 = .nx e' := by
      have it : mRg1 (mC (.int 8)) E1 = .ok (rngD 0 8) E1 := rfl
      unfold mFor
      rw [it]
      exact s2
    refine (ev_seq s3).trans ?_
    exact ev_ret (o := false) rfl
  refine ⟨finE false e', ?_⟩
  show (match b_law E0 with
    | .nx e => RC.ok .non false (finE false e)
    | .rt d o e => .ok d o (finE false e)
    | .exc c fs e => .exc c fs (finE false e)
    | _ => .bad) = _
  rw [z]
end K01

open PySem PySem.W PyProof.Rows
set_option maxRecDepth 100000 in
set_option maxHeartbeats 0 in
theorem PySem.Challenge.cw_neverabove_k01_tables_made_and_refused_holds : PySem.Challenge.rw_neverabove_k01_tables_made_and_refused.Holds := by
  w_on; o_law; k_head; (case hw => w_witness2)
  k_fill
  refine DL.walk_lawD (k := 8) (N := K01.n_law) (mb := K01.b_law) (l := PySem.Challenge.rw_neverabove_k01_tables_made_and_refused) rfl (by decide) rfl ⟨rfl, by decide, by decide⟩ (by decide +kernel) (fun w h Y => PySem.W.km_in_of Y) rfl K01.sc_law (fun _ _ _ _ _ _ _ => rfl) K01.law_true ?F
  case F =>
    intro w mg fa h Y KX G hmg
    refine' K01.all_mk rfl KX G hmg ?c0 ?c1 ?c2 ?c3 ?c4 ?c5 ?c6 ?c7 ?c8 ?c9 ?c10 ?c11 ?c12 ?c13 ?cM ?z_len ?z_all ?z_sorted ?z_abs ?z_zip ?z_range ?z_repr ?z_isinstance ?z_str ?z_list ?z_tuple ?z_int ?z_super ?v1 ?v2 ?v3 ?v4 ?v4l ?v4i ?pg ?hd ?po ?sa ?ha ?hn ?ht ?hm ?n_name ?n_columns ?n_unique ?n_kind ?k_str ?k_list ?k_tuple ?k_own ?k_NoneType0 ?nf_NoneType ?k_bool0 ?nf_bool ?k_int0 ?nf_int ?k_str0 ?nf_str ?k_tuple0 ?nf_tuple ?k_list0 ?nf_list ?k_dict0 ?nf_dict ?nf_own ?eqf ?eqi ?nef ?lfE ?cofE ?kpfE ?mk ?inf ?ini ?ink ?lfT ?cofT ?kpfT ?dl ?dli ?el ?eli ?xg ?xk ?xs ?xd ?xa ?xo ?xn ?x1 ?x2 ?x3 ?x4 ?x5 ?x6 ?x7 ?x8 ?x9 ?x10 ?x11 ?x12 ?x13 ?xm0 ?xm1 ?xm2 ?xm3 ?xL ?xv ?xsa ?xi ?xt ?xkC ?xty ?xve ?xsu ?xmr ?xop ?xtop ?xfn ?xcc ?xcd ?xv2 ?xfl ?xco ?xsc ?a_is_name ?lg_is_name ?cog_is_name ?kpg_is_name ?a_is_listed ?lg_is_listed ?cog_is_listed ?kpg_is_listed ?a_ascends ?lg_ascends ?cog_ascends ?kpg_ascends ?a_are_unlike ?lg_are_unlike ?cog_are_unlike ?kpg_are_unlike ?a_are_names ?lg_are_names ?cog_are_names ?kpg_are_names ?a__law_pen ?lg__law_pen ?cog__law_pen ?kpg__law_pen ?a__law_draw ?lg__law_draw ?cog__law_draw ?kpg__law_draw ?a__law_pick ?lg__law_pick ?cog__law_pick ?kpg__law_pick ?a__law_mixed ?lg__law_mixed ?cog__law_mixed ?kpg__law_mixed ?a__law_heard ?lg__law_heard ?cog__law_heard ?kpg__law_heard ?a__law_name ?lg__law_name ?cog__law_name ?kpg__law_name ?a_law ?ll ?lc ?lo ?l11 ?l18 ?l7 ?l9 ?l10 ?lP ?xev
    (case c0 => (k_is))
    (case c1 => (k_is))
    (case c2 => (k_is))
    (case c3 => (k_is))
    (case c4 => (k_is))
    (case c5 => (k_is))
    (case c6 => (k_is))
    (case c7 => (k_is))
    (case c8 => (k_is))
    (case c9 => (k_is))
    (case c10 => (k_is))
    (case c11 => (k_is))
    (case c12 => (k_is))
    (case c13 => (k_is))
    (case cM => (k_is))
    (case z_len => (k_is))
    (case z_all => (k_is))
    (case z_sorted => (k_is))
    (case z_abs => (k_is))
    (case z_zip => (k_is))
    (case z_range => (k_is))
    (case z_repr => (k_is))
    (case z_isinstance => (k_is))
    (case z_str => (k_is))
    (case z_list => (k_is))
    (case z_tuple => (k_is))
    (case z_int => (k_is))
    (case z_super => (k_is))
    (case v1 => (k_is))
    (case v2 => (k_is))
    (case v3 => (k_is))
    (case v4 => (k_is))
    (case v4l => (k_is))
    (case v4i => (rfl))
    (case pg => (k_is))
    (case hd => (k_is))
    (case po => (k_is))
    (case sa => (k_is))
    (case ha => (k_is))
    (case hn => (k_is))
    (case ht => (k_is))
    (case hm => (k_is))
    (case n_name => (k_is))
    (case n_columns => (k_is))
    (case n_unique => (k_is))
    (case n_kind => (k_is))
    (case k_str => (kit_is))
    (case k_list => (kit_is))
    (case k_tuple => (kit_is))
    (case k_own => (kit_is))
    (case k_NoneType0 => (kit_is))
    (case nf_NoneType => (k_is))
    (case k_bool0 => (kit_is))
    (case nf_bool => (k_is))
    (case k_int0 => (kit_is))
    (case nf_int => (k_is))
    (case k_str0 => (kit_is))
    (case nf_str => (k_is))
    (case k_tuple0 => (kit_is))
    (case nf_tuple => (k_is))
    (case k_list0 => (kit_is))
    (case nf_list => (k_is))
    (case k_dict0 => (kit_is))
    (case nf_dict => (k_is))
    (case nf_own => (k_is))
    (case eqf => (k_is))
    (case eqi => (k_is))
    (case nef => (k_is))
    (case lfE => (k_is))
    (case cofE => (k_is))
    (case kpfE => (k_is))
    (case mk => (k_is))
    (case inf => (k_is))
    (case ini => (k_is))
    (case ink => (k_is))
    (case lfT => (k_is))
    (case cofT => (k_is))
    (case kpfT => (k_is))
    (case dl => (k_is))
    (case dli => (rfl))
    (case el => (k_is))
    (case eli => (rfl))
    (case xg => (k_is))
    (case xk => (k_is))
    (case xs => (k_is))
    (case xd => (k_is))
    (case xa => (k_is))
    (case xo => (k_is))
    (case xn => (k_is))
    (case x1 => (kit_is))
    (case x2 => (kit_is))
    (case x3 => (kit_is))
    (case x4 => (kit_is))
    (case x5 => (kit_is))
    (case x6 => (kit_is))
    (case x7 => (kit_is))
    (case x8 => (kit_is))
    (case x9 => (kit_is))
    (case x10 => (kit_is))
    (case x11 => (kit_is))
    (case x12 => (kit_is))
    (case x13 => (kit_is))
    (case xm0 => (k_is))
    (case xm1 => (k_is))
    (case xm2 => (k_is))
    (case xm3 => (k_is))
    (case xL => (k_is))
    (case xv => (decide +kernel))
    (case xsa => (k_is))
    (case xi => (k_is))
    (case xt => (k_is))
    (case xkC => (k_is))
    (case xty => (k_is))
    (case xve => (k_is))
    (case xsu => (ks_is))
    (case xmr => (k_is))
    (case xop => (k_is))
    (case xtop => (rfl))
    (case xfn => (k_is))
    (case xcc => (k_is))
    (case xcd => (k_is))
    (case xv2 => (rfl))
    (case xfl => (rfl))
    (case xco => (k_is))
    (case xsc => (exact ⟨rfl, rfl, rfl, rfl, rfl, rfl, rfl, by decide +kernel, by decide +kernel, by decide +kernel⟩))
    (case a_is_name => (k_is))
    (case lg_is_name => (k_is))
    (case cog_is_name => (k_is))
    (case kpg_is_name => (k_is))
    (case a_is_listed => (k_is))
    (case lg_is_listed => (k_is))
    (case cog_is_listed => (k_is))
    (case kpg_is_listed => (k_is))
    (case a_ascends => (k_is))
    (case lg_ascends => (k_is))
    (case cog_ascends => (k_is))
    (case kpg_ascends => (k_is))
    (case a_are_unlike => (k_is))
    (case lg_are_unlike => (k_is))
    (case cog_are_unlike => (k_is))
    (case kpg_are_unlike => (k_is))
    (case a_are_names => (k_is))
    (case lg_are_names => (k_is))
    (case cog_are_names => (k_is))
    (case kpg_are_names => (k_is))
    (case a__law_pen => (k_is))
    (case lg__law_pen => (k_is))
    (case cog__law_pen => (k_is))
    (case kpg__law_pen => (k_is))
    (case a__law_draw => (k_is))
    (case lg__law_draw => (k_is))
    (case cog__law_draw => (k_is))
    (case kpg__law_draw => (k_is))
    (case a__law_pick => (k_is))
    (case lg__law_pick => (k_is))
    (case cog__law_pick => (k_is))
    (case kpg__law_pick => (k_is))
    (case a__law_mixed => (k_is))
    (case lg__law_mixed => (k_is))
    (case cog__law_mixed => (k_is))
    (case kpg__law_mixed => (k_is))
    (case a__law_heard => (k_is))
    (case lg__law_heard => (k_is))
    (case cog__law_heard => (k_is))
    (case kpg__law_heard => (k_is))
    (case a__law_name => (k_is))
    (case lg__law_name => (k_is))
    (case cog__law_name => (k_is))
    (case kpg__law_name => (k_is))
    (case a_law => (k_is))
    (case ll => (k_is))
    (case lc => (k_is))
    (case lo => (k_is))
    (case l11 => (rfl))
    (case l18 => (rfl))
    (case l7 => (rfl))
    (case l9 => (rfl))
    (case l10 => (rfl))
    (case lP => (first | rfl | kernel_rfl | decide +kernel))
    (case xev => (exact fun env => ⟨_, rfl⟩))

