import PyProof.Rows.All
import Wide.All
import OpenK.AllK
import Wide.FinOn
import HandS.ForMost
import HandS.ForExc
import HandS.CallSlots
import HandS.Wide
import HandS.Conv
import HandS.IsInst
import HandS.Style
import HandS.Walk
import HandS.ExcCtx
import HandS.Lambda
import HandS.EndTab
import HandS.HeadHook4
import HandS.HeadWalk
import HandS.HotCalls
import HandS.ExcIs
import HandS.TupAny
import HandS.TupMul
import HandS.StrMore
import HandS.Flow
import HandS.StrSplit
import HandS.SetFor
import HandS.SortRule
import KE.GoesZip
import KE.GoesEnum
import HandS.CallLocal
import HandS.Hot
import HandS.Defaults
import PyProof.ExcBaseAll.ValueError
import HandS.Codes
import HandS.Head0
import HandS.Head1
import HandS.Head2
import HandS.HeadEnd
import HandS.HeadHook1
import HandS.HeadHook2
import PySem.Challenge.RW_stampribbon_k07_texts_of_machines
set_option Elab.async false
set_option linter.all false
set_option maxRecDepth 100000
set_option maxHeartbeats 4000000
/-! Core1: pure data, the store, what the abstract heap says of them. -/
namespace Ev
open PySem PySem.Spec PyProof.Rows L2

/-- pure data; scr: the script -/
inductive P where
  | non | bl (b : Bool) | int (i : Int) | str (s : Str) | tup (ps : List P) | lst (ps : List P) | fn (x : Str) | scr (ns : List Int) | adr (a : Addr)
/-- an object of the store -/
inductive MO where
  | lst (ps : List P)
  | ins (c : Str) (fs : List (Str × P))
/-- what an expression gives: data, a new list, an object of the store -/
inductive D where
  | p (p : P) | nw (ps : List P) | loc (n : Nat)
abbrev Sto := List MO
abbrev Fr := List (Option D)
inductive Out (α : Type) where
  | ok (a : α) (M : Sto) | er (c : Str) (n : Option Int) (M : Sto) | no
abbrev EvD := Fr → Sto → Out D
/-- the module's names, the written part -/
structure Mg where
  m : Str → Option Value
  K : PySem.W.Frag
abbrev _root_.L2.Cx.g (X : Cx) : Mg := ⟨X.mg, X.K⟩
/-- a list of the written part -/
def LitK (K : PySem.W.Frag) (a : Addr) (xs : List V) : Prop := ∃ (o : Obj) (its : Array Value) (n : Nat), K.lookup a = some o ∧ o.cls = .type "list" ∧ o.dict = none ∧ o.data = .seq its n ∧ its.size ≤ sizeLine ∧ Vals xs its.toList

/-- the defs that hold lambdas, in all laws together -/
def lamDefs : List Str := ["_law_refused", "law", "_law_machined", "_law_begun", "_law_lined", "_law_behind", "_law_trials_right", "_law_both", "_law_operators_right", "_law_full_right"]
/-- a name of the module that holds an object -/
def hasG (K : PySem.W.Frag) (x : Str) : Bool := match PySem.W.nsIn K mainGlobals x with
  | some (some (.ref _)) => true
  | _ => false
def TK (K : PySem.W.Frag) : List (Addr × Str) := lamDefs.filterMap fun x => if hasG K x = true then some ((He.cT K (x, none)).2, (x ++ (".<locals>." : Str)) ++ ("<lambda>" : Str)) else none
mutual
/-- the value v is the datum p, over the heap H; ex: the addresses that may change -/
def Rep (g : Mg) (H : Hp) (ex : List Addr) : P → V → Prop
  | .non, v => v = .non
  | .bl b, v => v = .bl b
  | .int i, v => v = .int i
  | .str s, v => v = .str s
  | .tup ps, v => ∃ a vs, v = .ref a ∧ a ∉ ex ∧ H a = some (.tup vs) ∧ RepL g H ex ps vs
  | .lst ps, v => ∃ a vs, v = .ref a ∧ a ∉ ex ∧ H a = some (.lst vs) ∧ RepL g H ex ps vs
  | .fn x, v => ∃ a, v = .ref a ∧ g.m x = some (.ref a)
  | .scr ns, v => ∃ a, v = .ref a ∧ ((a ∉ ex ∧ (H a = some (.lst (ns.map V.int)) ∨ ∃ o, H a = some (.frz o (.lst (ns.map V.int))))) ∨ LitK g.K a (ns.map V.int))
  | .adr a, v => v = .ref a
def RepL (g : Mg) (H : Hp) (ex : List Addr) : List P → List V → Prop
  | [], vs => vs = []
  | p :: ps, vs => ∃ v r, vs = v :: r ∧ Rep g H ex p v ∧ RepL g H ex ps r
end

/-- no table of code objects -/
def NTb (u : HO) : Prop := ∀ ps, u ≠ .tbl ps
/-- nothing stands there, but a table perhaps -/
def NT (H : Hp) (a : Addr) : Prop := ∀ u, H a = some u → ¬ NTb u
theorem nt_none {H : Hp} {a : Addr} (h : H a = none) : NT H a := fun u e => by rw [h] at e; cases e
theorem NT.no {H : Hp} {a : Addr} {u : HO} (h : NT H a) (e : H a = some u) (n : NTb u) : False := h u e n
/-- from (H, ex) to (H', ex') -/
structure Le (H : Hp) (ex : List Addr) (H' : Hp) (ex' : List Addr) : Prop where
  pre : ex <+: ex'
  keep : ∀ a u, a ∉ ex → NTb u → H a = some u → H' a = some u
  new : ∀ a, a ∈ ex' → a ∈ ex ∨ NT H a
  back : ∀ a, NT H' a → NT H a
theorem Le.refl (H : Hp) (ex : List Addr) : Le H ex H ex := ⟨List.prefix_refl _, fun _ _ _ _ h => h, fun _ h => .inl h, fun _ h => h⟩
theorem Le.trans {H H1 H2 : Hp} {e e1 e2 : List Addr} (a : Le H e H1 e1) (b : Le H1 e1 H2 e2) : Le H e H2 e2 := by
  have nin : ∀ {c u}, c ∉ e → NTb u → H c = some u → c ∉ e1 := fun {c u} hc n h z => by
    rcases a.new c z with z | z
    · exact hc z
    · exact z.no h n
  refine ⟨a.pre.trans b.pre, fun c u hc n h => ?_, fun c hc => ?_, fun c h => a.back c (b.back c h)⟩
  · exact b.keep c u (nin hc n h) n (a.keep c u hc n h)
  · rcases b.new c hc with z | z
    · exact a.new c z
    · exact .inr (a.back c z)
theorem Le.nin {H H' : Hp} {e e' : List Addr} (l : Le H e H' e') {a : Addr} {u : HO} (h : H a = some u) (n : NTb u) (ha : a ∉ e) : a ∉ e' := fun z => by
  rcases l.new a z with z | z
  · exact ha z
  · exact z.no h n
theorem le_back {H H' : Hp} (k : ∀ a u, NTb u → H a = some u → H' a = some u) : ∀ a, NT H' a → NT H a := fun a h u q n => h.no (k a u n q) n
/-- a new object -/
theorem Le.upd {H : Hp} {e : List Addr} {p : Addr} {o : HO} (h : H p = none) : Le H e (upd H p o) e :=
  have k : ∀ a u, NTb u → H a = some u → L2.upd H p o a = some u := fun a u _ q => by rw [upd_ne (ne_of_none q h)]; exact q
  ⟨List.prefix_refl _, fun a u _ => k a u, fun _ q => .inl q, le_back k⟩
/-- .. which may change from now on -/
theorem Le.updx {H : Hp} {e : List Addr} {p : Addr} {o : HO} (h : H p = none) : Le H e (L2.upd H p o) (e ++ [p]) :=
  ⟨List.prefix_append _ _, (Le.upd (e := e) h).keep, fun a q => by
    rcases List.mem_append.mp q with q | q
    · exact .inl q
    · rw [List.mem_singleton.mp q]; exact .inr (nt_none h), (Le.upd (e := e) h).back⟩
theorem ntb_tup {xs : List V} : NTb (.tup xs) := fun ps z => by cases z
theorem ntb_lst {xs : List V} : NTb (.lst xs) := fun ps z => by cases z
theorem ntb_frz {o : Obj} {u : HO} : NTb (.frz o u) := fun ps z => by cases z
theorem ntb_ins {C dx : Addr} {fs : List (Str × V)} : NTb (.ins C dx fs) := fun ps z => by cases z

section
variable {g : Mg} {H H' : Hp} {e e' : List Addr}
mutual
theorem Rep.mono (l : Le H e H' e') : ∀ {p : P} {v : V}, Rep g H e p v → Rep g H' e' p v
  | .non, _, h => h
  | .bl _, _, h => h
  | .int _, _, h => h
  | .str _, _, h => h
  | .tup _, _, h => by
    unfold Rep at h ⊢
    obtain ⟨a, vs, rfl, ha, h1, h2⟩ := h
    exact ⟨a, vs, rfl, l.nin h1 (by intro ps z; cases z) ha, l.keep a _ ha (by intro ps z; cases z) h1, RepL.mono l h2⟩
  | .lst _, _, h => by
    unfold Rep at h ⊢
    obtain ⟨a, vs, rfl, ha, h1, h2⟩ := h
    exact ⟨a, vs, rfl, l.nin h1 (by intro ps z; cases z) ha, l.keep a _ ha (by intro ps z; cases z) h1, RepL.mono l h2⟩
  | .fn _, _, h => h
  | .scr _, _, h => by
    unfold Rep at h ⊢
    obtain ⟨a, rfl, ⟨ha, h1 | ⟨o, h1⟩⟩ | h⟩ := h
    · exact ⟨a, rfl, .inl ⟨l.nin h1 ntb_lst ha, .inl (l.keep a _ ha ntb_lst h1)⟩⟩
    · exact ⟨a, rfl, .inl ⟨l.nin h1 ntb_frz ha, .inr ⟨o, l.keep a _ ha ntb_frz h1⟩⟩⟩
    · exact ⟨a, rfl, .inr h⟩
  | .adr _, _, h => h
theorem RepL.mono (l : Le H e H' e') : ∀ {ps : List P} {vs : List V}, RepL g H e ps vs → RepL g H' e' ps vs
  | [], _, h => h
  | _ :: _, _, h => by
    unfold RepL at h ⊢
    obtain ⟨v, r, rfl, h1, h2⟩ := h
    exact ⟨v, r, rfl, Rep.mono l h1, RepL.mono l h2⟩
end
mutual
theorem Rep.less (l : ∀ a, a ∈ e' → a ∈ e) : ∀ {p : P} {v : V}, Rep g H e p v → Rep g H e' p v
  | .non, _, h => h
  | .bl _, _, h => h
  | .int _, _, h => h
  | .str _, _, h => h
  | .tup _, _, h => by
    unfold Rep at h ⊢
    obtain ⟨a, vs, rfl, ha, h1, h2⟩ := h
    exact ⟨a, vs, rfl, fun z => ha (l a z), h1, RepL.less l h2⟩
  | .lst _, _, h => by
    unfold Rep at h ⊢
    obtain ⟨a, vs, rfl, ha, h1, h2⟩ := h
    exact ⟨a, vs, rfl, fun z => ha (l a z), h1, RepL.less l h2⟩
  | .fn _, _, h => h
  | .scr _, _, h => by
    unfold Rep at h ⊢
    obtain ⟨a, rfl, ⟨ha, h1⟩ | h⟩ := h
    · exact ⟨a, rfl, .inl ⟨fun z => ha (l a z), h1⟩⟩
    · exact ⟨a, rfl, .inr h⟩
  | .adr _, _, h => h
theorem RepL.less (l : ∀ a, a ∈ e' → a ∈ e) : ∀ {ps : List P} {vs : List V}, RepL g H e ps vs → RepL g H e' ps vs
  | [], _, h => h
  | _ :: _, _, h => by
    unfold RepL at h ⊢
    obtain ⟨v, r, rfl, h1, h2⟩ := h
    exact ⟨v, r, rfl, Rep.less l h1, RepL.less l h2⟩
end
theorem RepL.length : ∀ {ps : List P} {vs : List V}, RepL g H e ps vs → vs.length = ps.length
  | [], _, h => by unfold RepL at h; rw [h]; rfl
  | _ :: _, _, h => by
    unfold RepL at h
    obtain ⟨v, r, rfl, h1, h2⟩ := h
    rw [List.length_cons, List.length_cons, h2.length]
theorem RepL.append : ∀ {ps qs : List P} {vs ws : List V}, RepL g H e ps vs → RepL g H e qs ws → RepL g H e (ps ++ qs) (vs ++ ws)
  | [], _, _, _, h, k => by unfold RepL at h; rw [h]; exact k
  | _ :: _, _, _, _, h, k => by
    unfold RepL at h
    obtain ⟨v, r, rfl, h1, h2⟩ := h
    show RepL g H e (_ :: (_ ++ _)) (v :: (r ++ _))
    unfold RepL
    exact ⟨v, _, rfl, h1, h2.append k⟩
theorem RepL.one {p : P} {v : V} (h : Rep g H e p v) : RepL g H e [p] [v] := by
  unfold RepL
  exact ⟨v, [], rfl, h, by unfold RepL; rfl⟩
theorem RepL.nil : RepL g H e [] [] := by unfold RepL; rfl
theorem RepL.cons {p : P} {v : V} {ps : List P} {vs : List V} (h : Rep g H e p v) (t : RepL g H e ps vs) : RepL g H e (p :: ps) (v :: vs) := by
  unfold RepL
  exact ⟨v, vs, rfl, h, t⟩
theorem RepL.nil_inv {vs : List V} (h : RepL g H e [] vs) : vs = [] := by unfold RepL at h; exact h
theorem RepL.cons_inv {p : P} {ps : List P} {vs : List V} (h : RepL g H e (p :: ps) vs) : ∃ v r, vs = v :: r ∧ Rep g H e p v ∧ RepL g H e ps r := by unfold RepL at h; exact h
theorem RepL.get : ∀ {ps : List P} {vs : List V} {i : Nat} {p : P}, RepL g H e ps vs → ps[i]? = some p → ∃ v, vs[i]? = some v ∧ Rep g H e p v
  | [], _, _, _, _, k => by simp at k
  | _ :: _, _, 0, _, h, k => by
    obtain ⟨v, r, rfl, h1, h2⟩ := h.cons_inv
    simp at k; subst k
    exact ⟨v, rfl, h1⟩
  | _ :: _, _, i + 1, _, h, k => by
    obtain ⟨v, r, rfl, h1, h2⟩ := h.cons_inv
    obtain ⟨w, e1, e2⟩ := RepL.get (i := i) h2 (by simpa using k)
    exact ⟨w, by simpa using e1, e2⟩
theorem RepL.take : ∀ {ps : List P} {vs : List V} (n : Nat), RepL g H e ps vs → RepL g H e (ps.take n) (vs.take n)
  | _, _, 0, _ => RepL.nil
  | [], _, n + 1, h => by rw [h.nil_inv]; exact RepL.nil
  | _ :: _, _, n + 1, h => by
    obtain ⟨v, r, rfl, h1, h2⟩ := h.cons_inv
    exact RepL.cons h1 (h2.take n)
theorem RepL.drop : ∀ {ps : List P} {vs : List V} (n : Nat), RepL g H e ps vs → RepL g H e (ps.drop n) (vs.drop n)
  | _, _, 0, h => h
  | [], _, n + 1, h => by rw [h.nil_inv]; exact RepL.nil
  | _ :: _, _, n + 1, h => by
    obtain ⟨v, r, rfl, h1, h2⟩ := h.cons_inv
    exact h2.drop n
theorem RepL.set : ∀ {ps : List P} {vs : List V} {p : P} {v : V} (i : Nat), RepL g H e ps vs → Rep g H e p v → RepL g H e (ps.set i p) (vs.set i v)
  | [], _, _, _, _, h, _ => by rw [h.nil_inv]; exact RepL.nil
  | _ :: _, _, _, _, 0, h, k => by
    obtain ⟨v, r, rfl, h1, h2⟩ := h.cons_inv
    exact RepL.cons k h2
  | _ :: _, _, _, _, i + 1, h, k => by
    obtain ⟨v, r, rfl, h1, h2⟩ := h.cons_inv
    exact RepL.cons h1 (h2.set i k)
theorem RepL.ints : ∀ {ns : List Int} {vs : List V}, RepL g H e (ns.map P.int) vs → vs = ns.map V.int
  | [], _, h => h.nil_inv
  | _ :: _, _, h => by
    obtain ⟨v, r, rfl, h1, h2⟩ := h.cons_inv
    unfold Rep at h1
    rw [h1, h2.ints]; rfl
theorem RepL.of_ints : ∀ (ns : List Int), RepL g H e (ns.map P.int) (ns.map V.int)
  | [] => RepL.nil
  | _ :: r => RepL.cons (by unfold Rep; rfl) (RepL.of_ints r)
theorem RepL.strs : ∀ {ns : List Str} {vs : List V}, RepL g H e (ns.map P.str) vs → vs = ns.map V.str
  | [], _, h => h.nil_inv
  | _ :: _, _, h => by
    obtain ⟨v, r, rfl, h1, h2⟩ := h.cons_inv
    unfold Rep at h1
    rw [h1, h2.strs]; rfl
theorem RepL.of_strs : ∀ (ns : List Str), RepL g H e (ns.map P.str) (ns.map V.str)
  | [] => RepL.nil
  | _ :: r => RepL.cons (by unfold Rep; rfl) (RepL.of_strs r)
end

/-! ### the store -/
/-- the fields of an instance -/
def RepF (g : Mg) (H : Hp) (ex : List Addr) : List (Str × P) → List (Str × V) → Prop
  | [], vs => vs = []
  | (x, p) :: fs, vs => ∃ v r, vs = (x, v) :: r ∧ Rep g H ex p v ∧ RepF g H ex fs r
/-- the object at a -/
def ObjR (g : Mg) (H : Hp) (ex : List Addr) (a : Addr) : MO → Prop
  | .lst ps => ∃ vs, H a = some (.lst vs) ∧ RepL g H ex ps vs
  | .ins c fs => ∃ C dx vs, g.m c = some (.ref C) ∧ H a = some (.ins C dx vs) ∧ RepF g H ex fs vs
/-- the tables of code objects -/
def TbsOk (g : Mg) (H : Hp) : Prop := LamX.Tabs (TK g.K) H
theorem TbsOk.upd {g : Mg} {H : Hp} {p : Addr} {o : HO} (t : TbsOk g H) (h : H p = none) : TbsOk g (L2.upd H p o) := LamX.Tabs.ext t fun b u e => by rw [upd_ne (ne_of_none e h)]; exact e
/-- an object that is no table and no code object is written -/
theorem TbsOk.wr {g : Mg} {H : Hp} {p : Addr} {o u : HO} (t : TbsOk g H) (h : H p = some u) (n : NTb u) (n2 : ∀ φ, u ≠ .ext φ) : TbsOk g (L2.upd H p o) := fun q hq => by
  obtain ⟨ps, h1, h2, h3⟩ := t q hq
  have hne : q.1 ≠ p := fun z => by
    rw [z, h] at h1
    exact n ps (Option.some.inj h1)
  refine ⟨ps, by rw [upd_ne hne]; exact h1, h2, fun pos cv hc => ?_⟩
  obtain ⟨c, e1, e2⟩ := h3 pos cv hc
  have hc : c ≠ p := fun z => by
    rw [z, h] at e2
    exact n2 _ (Option.some.inj e2)
  exact ⟨c, e1, by rw [upd_ne hc]; exact e2⟩
structure StoOk (g : Mg) (H : Hp) (mu ex : List Addr) (M : Sto) : Prop where
  tab : TbsOk g H
  len : mu.length = M.length
  nd : mu.Nodup
  sub : ∀ a, a ∈ mu → a ∈ ex
  obj : ∀ (n : Nat) (mo : MO), M[n]? = some mo → ∃ a, mu[n]? = some a ∧ ObjR g H ex a mo
section
variable {g : Mg} {H H' : Hp} {e e' mu : List Addr} {M : Sto}
theorem RepF.mono (l : Le H e H' e') : ∀ {fs : List (Str × P)} {vs : List (Str × V)}, RepF g H e fs vs → RepF g H' e' fs vs
  | [], _, h => h
  | _ :: _, _, h => by
    obtain ⟨v, r, rfl, h1, h2⟩ := h
    exact ⟨v, r, rfl, h1.mono l, RepF.mono l h2⟩
theorem RepF.less (l : ∀ a, a ∈ e' → a ∈ e) : ∀ {fs : List (Str × P)} {vs : List (Str × V)}, RepF g H e fs vs → RepF g H e' fs vs
  | [], _, h => h
  | _ :: _, _, h => by
    obtain ⟨v, r, rfl, h1, h2⟩ := h
    exact ⟨v, r, rfl, h1.less l, RepF.less l h2⟩
theorem ObjR.less (l : ∀ a, a ∈ e' → a ∈ e) {a : Addr} : ∀ {mo : MO}, ObjR g H e a mo → ObjR g H e' a mo
  | .lst _, h => by
    obtain ⟨vs, h1, h2⟩ := h
    exact ⟨vs, h1, h2.less l⟩
  | .ins _ _, h => by
    obtain ⟨C, dx, vs, h1, h2, h3⟩ := h
    exact ⟨C, dx, vs, h1, h2, h3.less l⟩
theorem ObjR.some {a : Addr} : ∀ {mo : MO}, ObjR g H e a mo → ∃ u, H a = some u ∧ NTb u
  | .lst _, ⟨_, h, _⟩ => ⟨_, h, ntb_lst⟩
  | .ins _ _, ⟨_, _, _, _, h, _⟩ => ⟨_, h, ntb_ins⟩
theorem StoOk.less (h : StoOk g H mu e M) (l : ∀ a, a ∈ e' → a ∈ e) (s : ∀ a, a ∈ mu → a ∈ e') : StoOk g H mu e' M :=
  ⟨h.tab, h.len, h.nd, s, fun n mo q => by
    obtain ⟨a, h1, h2⟩ := h.obj n mo q
    exact ⟨a, h1, h2.less l⟩⟩
/-- a new object, that the store does not hold -/
theorem ObjR.upd {p : Addr} {o : HO} (hp : H p = none) {a : Addr} : ∀ {mo : MO}, ObjR g H e a mo → ObjR g (L2.upd H p o) (e ++ [p]) a mo
  | .lst _, h => by
    obtain ⟨vs, h1, h2⟩ := h
    exact ⟨vs, by rw [upd_ne (ne_of_none h1 hp)]; exact h1, h2.mono (Le.updx hp)⟩
  | .ins _ _, h => by
    obtain ⟨C, dx, vs, h1, h2, h3⟩ := h
    exact ⟨C, dx, vs, h1, by rw [upd_ne (ne_of_none h2 hp)]; exact h2, h3.mono (Le.updx hp)⟩
theorem ObjR.updn {p : Addr} {o : HO} (hp : H p = none) {a : Addr} : ∀ {mo : MO}, ObjR g H e a mo → ObjR g (L2.upd H p o) e a mo
  | .lst _, h => by
    obtain ⟨vs, h1, h2⟩ := h
    exact ⟨vs, by rw [upd_ne (ne_of_none h1 hp)]; exact h1, h2.mono (Le.upd hp)⟩
  | .ins _ _, h => by
    obtain ⟨C, dx, vs, h1, h2, h3⟩ := h
    exact ⟨C, dx, vs, h1, by rw [upd_ne (ne_of_none h2 hp)]; exact h2, h3.mono (Le.upd hp)⟩
theorem StoOk.updx {p : Addr} {o : HO} (h : StoOk g H mu e M) (hp : H p = none) : StoOk g (L2.upd H p o) mu (e ++ [p]) M :=
  ⟨h.tab.upd hp, h.len, h.nd, fun a q => List.mem_append_left _ (h.sub a q), fun n mo q => by
    obtain ⟨a, h1, h2⟩ := h.obj n mo q
    exact ⟨a, h1, h2.upd hp⟩⟩
theorem StoOk.upd {p : Addr} {o : HO} (h : StoOk g H mu e M) (hp : H p = none) : StoOk g (L2.upd H p o) mu e M :=
  ⟨h.tab.upd hp, h.len, h.nd, h.sub, fun n mo q => by
    obtain ⟨a, h1, h2⟩ := h.obj n mo q
    exact ⟨a, h1, h2.updn hp⟩⟩
theorem StoOk.fresh {p : Addr} (h : StoOk g H mu e M) (hp : NT H p) : p ∉ mu := fun z => by
  obtain ⟨n, hn⟩ := List.getElem?_of_mem z
  have hl : n < M.length := by rw [← h.len]; exact (List.getElem?_eq_some_iff.mp hn).1
  obtain ⟨a, h1, h2⟩ := h.obj n M[n] (List.getElem?_eq_getElem hl)
  rw [hn] at h1
  cases h1
  obtain ⟨u, hu, hn⟩ := h2.some
  exact hp.no hu hn
/-- one object more -/
theorem StoOk.push {p : Addr} {mo : MO} (h : StoOk g H mu (mu ++ [p]) M) (hp : p ∉ mu) (ho : ObjR g H (mu ++ [p]) p mo) : StoOk g H (mu ++ [p]) (mu ++ [p]) (M ++ [mo]) := by
  refine ⟨h.tab, by rw [List.length_append, List.length_append, h.len]; rfl, ?_, fun _ q => q, fun n mo' q => ?_⟩
  · rw [List.nodup_append]
    refine ⟨h.nd, by simp, fun a ha b hb => ?_⟩
    rw [List.mem_singleton.mp hb]
    exact fun z => hp (z ▸ ha)
  · by_cases hn : n < M.length
    · rw [List.getElem?_append_left hn] at q
      obtain ⟨a, h1, h2⟩ := h.obj n mo' q
      exact ⟨a, by rw [List.getElem?_append_left (by rw [h.len]; exact hn)]; exact h1, h2⟩
    · rw [List.getElem?_append_right (by omega)] at q
      have hz : n - M.length = 0 := by
        by_cases z : n - M.length = 0
        · exact z
        · rw [List.getElem?_eq_none (by simp; omega)] at q; cases q
      rw [hz] at q
      simp at q
      subst q
      refine ⟨p, ?_, ho⟩
      rw [List.getElem?_append_right (by rw [h.len]; omega), h.len, hz]
      rfl
end

/-! ### results -/
def RepD (g : Mg) (H : Hp) (mu : List Addr) : D → V → Prop
  | .p p, v => Rep g H mu p v
  | .loc n, v => ∃ a, mu[n]? = some a ∧ v = .ref a
  | .nw _, _ => False
/-- behind an expression that began over H₀ -/
def Post (g : Mg) (H₀ H : Hp) (mu : List Addr) (M : Sto) (d : D) (v : V) : Prop :=
  match d with
  | .nw ps => ∃ p vs, v = .ref p ∧ NT H₀ p ∧ p ∉ mu ∧ H p = some (.lst vs) ∧ RepL g H (mu ++ [p]) ps vs ∧ StoOk g H mu (mu ++ [p]) M
  | d => StoOk g H mu mu M ∧ RepD g H mu d v
def D.val : D → D
  | .nw ps => .p (.lst ps)
  | d => d
theorem Post.val {g : Mg} {H₀ H : Hp} {mu : List Addr} {M : Sto} : ∀ {d : D} {v : V}, Post g H₀ H mu M d v → StoOk g H mu mu M ∧ RepD g H mu d.val v
  | .p _, _, h => h
  | .loc _, _, h => h
  | .nw _, _, h => by
    obtain ⟨p, vs, rfl, _, hp, h1, h2, h3⟩ := h
    have sub : ∀ a, a ∈ mu → a ∈ mu ++ [p] := fun a q => List.mem_append_left _ q
    refine ⟨h3.less sub fun _ q => q, ?_⟩
    show Rep g H mu (.lst _) _
    unfold Rep
    exact ⟨p, vs, rfl, hp, h1, h2.less sub⟩
theorem RepD.mono {g : Mg} {H H' : Hp} {mu mu' : List Addr} (l : Le H mu H' mu') : ∀ {d : D} {v : V}, RepD g H mu d v → RepD g H' mu' d v
  | .p _, _, h => Rep.mono l h
  | .loc n, _, h => by
    obtain ⟨a, h1, h2⟩ := h
    obtain ⟨t, rfl⟩ := l.pre
    refine ⟨a, ?_, h2⟩
    rw [List.getElem?_append_left (List.getElem?_eq_some_iff.mp h1).1]
    exact h1
  | .nw _, _, h => h.elim
/-- read, as it stands now: the datum -/
def D.get (M : Sto) : D → Option P
  | .p q => some q
  | .nw ps => some (.lst ps)
  | .loc n => match M[n]? with
    | some (.lst ps) => some (.lst ps)
    | _ => none
/-- v may be read as p: p's list may be one of the store's -/
def RdP (g : Mg) (H : Hp) (ex : List Addr) (p : P) (v : V) : Prop :=
  Rep g H ex p v ∨ ∃ ps a vs, p = .lst ps ∧ v = .ref a ∧ H a = some (.lst vs) ∧ RepL g H ex ps vs
theorem RepD.get {g : Mg} {H : Hp} {mu : List Addr} {M : Sto} {p : P} (s : StoOk g H mu mu M) : ∀ {d : D} {v : V}, RepD g H mu d v → d.get M = some p → RdP g H mu p v
  | .p _, _, h, q => by cases q; exact .inl h
  | .loc n, _, h, q => by
    obtain ⟨a, h1, rfl⟩ := h
    have q : (match M[n]? with
      | some (.lst ps) => some (P.lst ps)
      | _ => none) = some p := q
    split at q
    · rename_i ps hn
      cases q
      obtain ⟨b, e1, vs, e2, e3⟩ := s.obj n _ hn
      rw [h1] at e1; cases e1
      exact .inr ⟨ps, _, vs, rfl, rfl, e2, e3⟩
    · cases q
  | .nw _, _, h, _ => h.elim
theorem get_val {M : Sto} (d : D) : d.val.get M = d.get M := by cases d <;> rfl

/-! ### slots -/
structure SlOk (g : Mg) (H : Hp) (mu : List Addr) (σ : Fr) (τ : L2.St) : Prop where
  len : σ.length = τ.length
  at_ : ∀ (i : Nat) (d : D), σ[i]? = some (some d) → ∃ v, τ[i]? = some (some v) ∧ RepD g H mu d v
theorem SlOk.mono {g : Mg} {H H' : Hp} {mu mu' : List Addr} {σ : Fr} {τ : L2.St} (l : Le H mu H' mu') (s : SlOk g H mu σ τ) : SlOk g H' mu' σ τ :=
  ⟨s.len, fun i d h => by
    obtain ⟨v, h1, h2⟩ := s.at_ i d h
    exact ⟨v, h1, h2.mono l⟩⟩
theorem SlOk.set {g : Mg} {H : Hp} {mu : List Addr} {σ : Fr} {τ : L2.St} {d : D} {v : V} (i : Nat) (s : SlOk g H mu σ τ) (r : RepD g H mu d v) : SlOk g H mu (σ.set i (some d)) (τ.set i (some v)) := by
  refine ⟨by rw [List.length_set, List.length_set]; exact s.len, fun j d' h => ?_⟩
  by_cases hj : i = j
  · subst hj
    by_cases hi : i < σ.length
    · rw [List.getElem?_set_self hi] at h
      cases h
      exact ⟨v, List.getElem?_set_self (by rw [← s.len]; exact hi), r⟩
    · rw [List.getElem?_eq_none (by rw [List.length_set]; omega)] at h; cases h
  · rw [List.getElem?_set_ne hj] at h
    obtain ⟨w, h1, h2⟩ := s.at_ j d' h
    exact ⟨w, by rw [List.getElem?_set_ne hj]; exact h1, h2⟩
theorem SlOk.none {g : Mg} {H : Hp} {mu : List Addr} {σ : Fr} {τ : L2.St} {v : Option V} (i : Nat) (s : SlOk g H mu σ τ) : SlOk g H mu (σ.set i Option.none) (τ.set i v) := by
  refine ⟨by rw [List.length_set, List.length_set]; exact s.len, fun j d' h => ?_⟩
  by_cases hj : i = j
  · subst hj
    by_cases hi : i < σ.length
    · rw [List.getElem?_set_self hi] at h; cases h
    · rw [List.getElem?_eq_none (by rw [List.length_set]; omega)] at h; cases h
  · rw [List.getElem?_set_ne hj] at h
    obtain ⟨w, h1, h2⟩ := s.at_ j d' h
    exact ⟨w, by rw [List.getElem?_set_ne hj]; exact h1, h2⟩

/-! ### exceptions -/
/-- an error of the class c in the air: its class, its dict; n: the one field that it has, if any -/
def fieldOf (c : Str) : Str := if c = ("TooMany" : Str) then "limit" else "place"
def ExcR (g : Mg) (c : Str) (n : Option Int) (cls : Value) (dd : Option Addr) (H : Hp) : Prop :=
  ∃ C, g.m c = some (.ref C) ∧ cls = .ref C ∧ match n with
    | none => dd = none
    | some k => ∃ d, dd = some d ∧ H d = some (.xd [(fieldOf c, .int k)])

/-! ### what the combinators say of the syntax -/
def PostO (g : Mg) (H : Hp) (mu : List Addr) (τ : L2.St) (W : WX) (o : Out D) (Q : VK) : Prop :=
  match o with
  | .ok d M' => ∀ v H' mu', Le H mu H' mu' → Post g H H' mu' M' d v → Q v H'
  | .er c n M' => ∀ cls dd H' mu', Le H mu H' mu' → StoOk g H' mu' mu' M' → ExcR g c n cls dd H' → W cls dd τ H'
  | .no => False
def tE (g : Mg) (W : WX) (f : EvD) : TE := fun τ H Q => ∃ σ M mu, SlOk g H mu σ τ ∧ StoOk g H mu mu M ∧ PostO g H mu τ W (f σ M) Q
def PEv (X : Cx) (e : Expr) (f : EvD) : Prop := ∀ W, L2N.Takes X W → PE X e (tE X.g W f)
theorem PE.imp {X : Cx} {e : Expr} {t t' : TE} (h : PE X e t) (i : ∀ τ H Q, t' τ H Q → t τ H Q) : PE X e t' := ⟨fun pins s σ H Q I q => h.run pins s σ H Q I (i σ H Q q)⟩
end Ev

set_option Elab.async false
set_option linter.all false
set_option maxRecDepth 100000
set_option maxHeartbeats 4000000
/-! Core2: combinators of expressions. -/
namespace Ev
open PySem PySem.Spec PyProof.Rows L2

@[simp] def Out.bind {α β : Type} : Out α → (α → Sto → Out β) → Out β
  | .ok a M, k => k a M
  | .er c n M, _ => .er c n M
  | .no, _ => .no

section
variable {g : Mg} {H H' : Hp} {mu mu' : List Addr} {τ : L2.St} {W : WX} {Q Q' : VK}
theorem Post.back {H₀ H₁ : Hp} {M : Sto} {d : D} {v : V} (b : ∀ a, NT H₁ a → NT H₀ a) (p : Post g H₁ H mu M d v) : Post g H₀ H mu M d v := by
  cases d with
  | nw ps =>
    obtain ⟨p, vs, e, h0, r⟩ := p
    exact ⟨p, vs, e, b _ h0, r⟩
  | p _ => exact p
  | loc _ => exact p
theorem PostO.shift {o : Out D} (l : Le H mu H' mu') (h : PostO g H mu τ W o Q) : PostO g H' mu' τ W o Q := by
  cases o with
  | ok d M => exact fun v H2 mu2 l2 p => h v H2 mu2 (l.trans l2) (p.back l.back)
  | er c n M => exact fun cls dd H2 mu2 l2 s x => h cls dd H2 mu2 (l.trans l2) s x
  | no => exact h
theorem PostO.mono {o : Out D} (h : PostO g H mu τ W o Q) (i : ∀ v H', Q v H' → Q' v H') : PostO g H mu τ W o Q' := by
  cases o with
  | ok d M => exact fun v H2 mu2 l2 p => i _ _ (h v H2 mu2 l2 p)
  | er c n M => exact h
  | no => exact h
/-- an expression first, then what comes behind -/
def Then (g : Mg) (H : Hp) (mu : List Addr) (K : D → Sto → Hp → List Addr → Prop) : VK := fun v H' => ∃ mu' d M', Le H mu H' mu' ∧ StoOk g H' mu' mu' M' ∧ RepD g H' mu' d.val v ∧ K d M' H' mu'
theorem PostO.bind {o : Out D} {k : D → Sto → Out D} (h : PostO g H mu τ W (o.bind k) Q) : PostO g H mu τ W o (Then g H mu fun d M' H' mu' => PostO g H' mu' τ W (k d M') Q) := by
  cases o with
  | ok d M => exact fun v H2 mu2 l2 p => ⟨mu2, d, M, l2, p.val.1, p.val.2, PostO.shift l2 h⟩
  | er c n M => exact h
  | no => exact h.elim
end

/-- an argument list -/
def RepDL (g : Mg) (H : Hp) (mu : List Addr) : List D → List V → Prop
  | [], vs => vs = []
  | d :: ds, vs => ∃ v r, vs = v :: r ∧ RepD g H mu d v ∧ RepDL g H mu ds r
theorem RepDL.mono {g : Mg} {H H' : Hp} {mu mu' : List Addr} (l : Le H mu H' mu') : ∀ {ds : List D} {vs : List V}, RepDL g H mu ds vs → RepDL g H' mu' ds vs
  | [], _, h => h
  | _ :: _, _, ⟨v, r, e, h1, h2⟩ => ⟨v, r, e, h1.mono l, RepDL.mono l h2⟩
theorem RepDL.length {g : Mg} {H : Hp} {mu : List Addr} : ∀ {ds : List D} {vs : List V}, RepDL g H mu ds vs → vs.length = ds.length
  | [], _, h => by rw [show _ = [] from h]; rfl
  | _ :: _, _, ⟨v, r, e, h1, h2⟩ => by rw [e, List.length_cons, List.length_cons, h2.length]
abbrev EvA := Fr → Sto → Out (List D)
def PostA (g : Mg) (H : Hp) (mu : List Addr) (τ : L2.St) (W : WX) (o : Out (List D)) (Q : List V → Hp → Prop) : Prop :=
  match o with
  | .ok ds M' => ∀ vs H' mu', Le H mu H' mu' → StoOk g H' mu' mu' M' → RepDL g H' mu' ds vs → Q vs H'
  | .er c n M' => ∀ cls dd H' mu', Le H mu H' mu' → StoOk g H' mu' mu' M' → ExcR g c n cls dd H' → W cls dd τ H'
  | .no => False
def tAr (g : Mg) (W : WX) (f : EvA) : TA := fun τ H Q => ∃ σ M mu, SlOk g H mu σ τ ∧ StoOk g H mu mu M ∧ PostA g H mu τ W (f σ M) Q
def PAv (X : Cx) (es : List Expr) (f : EvA) : Prop := ∀ W, L2N.Takes X W → PA X es (tAr X.g W f)
theorem PA.imp {X : Cx} {e : List Expr} {t t' : TA} (h : PA X e t) (i : ∀ τ H Q, t' τ H Q → t τ H Q) : PA X e t' := ⟨fun pos pins s σ H Q I q => h.run pos pins s σ H Q I (i σ H Q q)⟩
def aNil : EvA := fun _ M => .ok [] M
def aCons (f : EvD) (r : EvA) : EvA := fun σ M => (f σ M).bind fun d M1 => (r σ M1).bind fun ds M2 => .ok (d.val :: ds) M2
section
variable {g : Mg} {H H' : Hp} {mu mu' : List Addr} {τ : L2.St} {W : WX} {Q Q' : VK} {QA QA' : List V → Hp → Prop}
theorem PostA.shift {o : Out (List D)} (l : Le H mu H' mu') (h : PostA g H mu τ W o QA) : PostA g H' mu' τ W o QA := by
  cases o with
  | ok d M => exact fun v H2 mu2 l2 p => h v H2 mu2 (l.trans l2) p
  | er c n M => exact fun cls dd H2 mu2 l2 s x => h cls dd H2 mu2 (l.trans l2) s x
  | no => exact h
theorem PostA.mono {o : Out (List D)} (h : PostA g H mu τ W o QA) (i : ∀ v H', QA v H' → QA' v H') : PostA g H mu τ W o QA' := by
  cases o with
  | ok d M => exact fun v H2 mu2 l2 p q => i _ _ (h v H2 mu2 l2 p q)
  | er c n M => exact h
  | no => exact h
theorem PostO.bindA {o : Out D} {k : D → Sto → Out (List D)} (h : PostA g H mu τ W (o.bind k) QA) : PostO g H mu τ W o (Then g H mu fun d M' H' mu' => PostA g H' mu' τ W (k d M') QA) := by
  cases o with
  | ok d M => exact fun v H2 mu2 l2 p => ⟨mu2, d, M, l2, p.val.1, p.val.2, PostA.shift l2 h⟩
  | er c n M => exact h
  | no => exact h.elim
theorem PostA.bind {o : Out (List D)} {k : List D → Sto → Out D} (h : PostO g H mu τ W (o.bind k) Q) : PostA g H mu τ W o (fun vs H' => ∃ mu' ds M', Le H mu H' mu' ∧ StoOk g H' mu' mu' M' ∧ RepDL g H' mu' ds vs ∧ PostO g H' mu' τ W (k ds M') Q) := by
  cases o with
  | ok ds M => exact fun vs H2 mu2 l2 s r => ⟨mu2, ds, M, l2, s, r, PostO.shift l2 h⟩
  | er c n M => exact h
  | no => exact h.elim
theorem PostA.bindA {o : Out (List D)} {k : List D → Sto → Out (List D)} (h : PostA g H mu τ W (o.bind k) QA) : PostA g H mu τ W o (fun vs H' => ∃ mu' ds M', Le H mu H' mu' ∧ StoOk g H' mu' mu' M' ∧ RepDL g H' mu' ds vs ∧ PostA g H' mu' τ W (k ds M') QA) := by
  cases o with
  | ok ds M => exact fun vs H2 mu2 l2 s r => ⟨mu2, ds, M, l2, s, r, PostA.shift l2 h⟩
  | er c n M => exact h
  | no => exact h.elim
end
section
variable {X : Cx} {e : Expr} {es : List Expr} {f : EvD} {r : EvA}
theorem pav_nil : PAv X [] aNil := fun W tk => PA.imp pa_nil fun τ H Q ⟨σ, M, mu, s, st, h⟩ => h [] H mu (Le.refl _ _) st rfl
theorem pav_cons (ha : PEv X e f) (hr : PAv X es r) (hs : starEach (e :: es) X.env = (false, eval e X.env) :: starEach es X.env) : PAv X (e :: es) (aCons f r) := fun W tk =>
  PA.imp (pa_cons (ha W tk) (hr W tk) hs) fun τ H Q ⟨σ, M, mu, s, st, h⟩ => by
    refine ⟨σ, M, mu, s, st, (PostO.bindA h).mono fun v H1 ⟨mu1, d, M1, l1, st1, r1, h1⟩ => ?_⟩
    refine ⟨σ, M1, mu1, s.mono l1, st1, (PostA.bindA h1).mono fun vs H2 ⟨mu2, ds, M2, l2, st2, r2, h2⟩ => ?_⟩
    exact h2 (v :: vs) H2 mu2 (Le.refl _ _) st2 ⟨v, vs, rfl, r1.mono l2, r2⟩
end

/-! ### constants, names -/
def eC (p : P) : EvD := fun _ M => .ok (.p p) M
def eVar (i : Nat) : EvD := fun σ M => match σ[i]? with
  | some (some d) => .ok d M
  | _ => .no
section
variable {X : Cx} {pos : Pos}
theorem tE_c {g : Mg} {W : WX} {τ : L2.St} {H : Hp} {Q : VK} {p : P} {v : V} (h : tE g W (eC p) τ H Q) (r : ∀ mu, Rep g H mu p v) : Q v H := by
  obtain ⟨σ, M, mu, s, st, h⟩ := h
  exact h v H mu (Le.refl _ _) ⟨st, r mu⟩
theorem pv_int {i j} : PEv X (.Constant (.int i) j pos) (eC (.int i)) := fun W tk => PE.imp pe_int fun τ H Q h => tE_c h fun _ => by unfold Rep; rfl
theorem pv_bl {i j} : PEv X (.Constant (.bool i) j pos) (eC (.bl i)) := fun W tk => PE.imp pe_bl fun τ H Q h => tE_c h fun _ => by unfold Rep; rfl
theorem pv_non {j} : PEv X (.Constant .none j pos) (eC .non) := fun W tk => PE.imp pe_non fun τ H Q h => tE_c h fun _ => by unfold Rep; rfl
theorem pv_str {i j} : PEv X (.Constant (.str i) j pos) (eC (.str i)) := fun W tk => PE.imp pe_str fun τ H Q h => tE_c h fun _ => by unfold Rep; rfl
theorem pv_var {i : Nat} {x : Str} (hN : X.N[i]? = some x) (hv : Vis X.env.scope x) (hd : (x == ("__debug__" : Str)) = false) (hcd : (x == ("__classdict__" : Str)) = false) : PEv X (.Name x pos) (eVar i) := fun W tk =>
  PE.imp (pe_var hN hv hd hcd) fun τ H Q ⟨σ, M, mu, s, st, h⟩ => by
    unfold eVar at h
    split at h
    · rename_i d hs
      obtain ⟨v, hv, r⟩ := s.at_ i d hs
      refine ⟨v, hv, h v H mu (Le.refl _ _) ?_⟩
      cases d with
      | nw ps => exact r.elim
      | p _ => exact ⟨st, r⟩
      | loc _ => exact ⟨st, r⟩
    · exact h.elim
theorem pv_glob {x : Str} {p : P} {v : V} {u : Value} (hg : Gl X x) (hm : X.mg x = some u) (r : RelV v u) (hr : ∀ H mu, Rep X.g H mu p v) (hd : (x == ("__debug__" : Str)) = false) : PEv X (.Name x pos) (eC p) := fun W tk =>
  PE.imp (pe_glob hg hm r hd) fun τ H Q h => tE_c h fun mu => hr H mu
end

/-! ### operators -/
/-- an operation on values, told of data -/
def Op2 (X : Cx) (f : Value → Value → Sem Value) (o : P → P → Option D) : Prop :=
  OpR X f fun x y H Q => ∃ mu M p q d, StoOk X.g H mu mu M ∧ RdP X.g H mu p x ∧ RdP X.g H mu q y ∧ o p q = some d ∧ ∀ v H', Le H mu H' mu → Post X.g H H' mu M d v → Q v H'
theorem OpR.imp {X : Cx} {f : Value → Value → Sem Value} {r r' : R2} (h : OpR X f r) (i : ∀ x y H Q, r' x y H Q → r x y H Q) : OpR X f r' := fun pins s σ H x y v u Q I rx ry q => h pins s σ H x y v u Q I rx ry (i x y H Q q)
def op2 (o : P → P → Option D) (d1 d2 : D) (M : Sto) : Out D := match d1.get M, d2.get M with
  | some p, some q => (match o p q with
    | some d => .ok d M
    | none => .no)
  | _, _ => .no
def eBin (o : P → P → Option D) (fa fb : EvD) : EvD := fun σ M => (fa σ M).bind fun d1 M1 => (fb σ M1).bind fun d2 M2 => op2 o d1 d2 M2
/-- two operands are evaluated -/
theorem tE_two {g : Mg} {W : WX} {τ : L2.St} {H : Hp} {Q : VK} {o : P → P → Option D} {fa fb : EvD} (h : tE g W (eBin o fa fb) τ H Q) :
    tE g W fa τ H fun x H1 => tE g W fb τ H1 fun y H2 => ∃ mu M p q d, StoOk g H2 mu mu M ∧ RdP g H2 mu p x ∧ RdP g H2 mu q y ∧ o p q = some d ∧ ∀ v H', Le H2 mu H' mu → Post g H2 H' mu M d v → Q v H' := by
  obtain ⟨σ, M, mu, s, st, h⟩ := h
  refine ⟨σ, M, mu, s, st, (PostO.bind h).mono fun x H1 ⟨mu1, d1, M1, l1, st1, r1, h1⟩ => ?_⟩
  refine ⟨σ, M1, mu1, s.mono l1, st1, (PostO.bind h1).mono fun y H2 ⟨mu2, d2, M2, l2, st2, r2, h2⟩ => ?_⟩
  dsimp only [op2] at h2
  split at h2
  · rename_i p q e1 e2
    split at h2
    · rename_i d e3
      refine ⟨mu2, M2, p, q, d, st2, (r1.mono l2).get st2 (by rw [get_val]; exact e1), r2.get st2 (by rw [get_val]; exact e2), e3, fun v H' l p => h2 v H' mu2 l p⟩
    · exact h2.elim
  · exact h2.elim
section
variable {X : Cx} {a b : Expr} {fa fb : EvD} {o : P → P → Option D} {pos : Pos}
theorem pv_bin {op : Operator} (ho : Op2 X (binaryOp op) o) (ha : PEv X a fa) (hb : PEv X b fb) : PEv X (.BinOp a op b pos) (eBin o fa fb) := fun W tk =>
  PE.imp (pe_op ho (ha W tk) (hb W tk)) fun τ H Q h => tE_two h
theorem pv_cmp {op : CmpOp} (ho : Op2 X (compareOp op) o) (ha : PEv X a fa) (hb : PEv X b fb) (hm : behindInMarks op b = false) : PEv X (.Compare a [op] [b] pos) (eBin o fa fb) := fun W tk =>
  PE.imp (pe_cmpR ho (ha W tk) (hb W tk) hm) fun τ H Q h => tE_two h
end
end Ev

set_option Elab.async false
set_option linter.all false
set_option maxRecDepth 100000
set_option maxHeartbeats 4000000
/-! Core3: the operators, tests. -/
namespace Ev
open PySem PySem.Spec PyProof.Rows L2

def lim : Nat := 1000000
theorem lim_le {n : Nat} (h : n ≤ lim) : n ≤ sizeLine := Nat.le_trans h (by decide)
theorem lim_lt {n : Nat} (h : n < lim) : n < sizeLine := Nat.lt_of_lt_of_le h (by decide)

section
variable {g : Mg} {H : Hp} {e : List Addr} {v : V}
theorem rd_int {i : Int} (h : RdP g H e (.int i) v) : v = .int i := by
  rcases h with h | ⟨_, _, _, q, _⟩
  · unfold Rep at h; exact h
  · cases q
theorem rd_bl {i : Bool} (h : RdP g H e (.bl i) v) : v = .bl i := by
  rcases h with h | ⟨_, _, _, q, _⟩
  · unfold Rep at h; exact h
  · cases q
theorem rd_non (h : RdP g H e .non v) : v = .non := by
  rcases h with h | ⟨_, _, _, q, _⟩
  · unfold Rep at h; exact h
  · cases q
theorem rd_str {i : Str} (h : RdP g H e (.str i) v) : v = .str i := by
  rcases h with h | ⟨_, _, _, q, _⟩
  · unfold Rep at h; exact h
  · cases q
theorem rd_lst {ps : List P} (h : RdP g H e (.lst ps) v) : ∃ a vs, v = .ref a ∧ H a = some (.lst vs) ∧ RepL g H e ps vs := by
  rcases h with h | ⟨_, a, vs, q, h1, h2, h3⟩
  · unfold Rep at h
    obtain ⟨a, vs, h1, _, h2, h3⟩ := h
    exact ⟨a, vs, h1, h2, h3⟩
  · cases q
    exact ⟨a, vs, h1, h2, h3⟩
theorem rd_tup {ps : List P} (h : RdP g H e (.tup ps) v) : ∃ a vs, v = .ref a ∧ a ∉ e ∧ H a = some (.tup vs) ∧ RepL g H e ps vs := by
  rcases h with h | ⟨_, a, vs, q, h1, h2, h3⟩
  · unfold Rep at h; exact h
  · cases q
theorem rd_rep {p : P} (h : RdP g H e p v) (n : ∀ ps, p ≠ .lst ps) : Rep g H e p v := by
  rcases h with h | ⟨ps, a, vs, q, h1, h2, h3⟩
  · exact h
  · exact absurd q (n ps)
/-- a new list -/
theorem post_nw {mu : List Addr} {M : Sto} {p : Addr} {ps : List P} {vs : List V} (st : StoOk g H mu mu M) (hp : H p = none) (r : RepL g H mu ps vs) : Post g H (upd H p (.lst vs)) mu M (.nw ps) (.ref p) :=
  ⟨p, vs, rfl, nt_none hp, st.fresh (nt_none hp), upd_same, r.mono (Le.updx hp), st.updx hp⟩
theorem post_tup {mu : List Addr} {M : Sto} {p : Addr} {ps : List P} {vs : List V} (st : StoOk g H mu mu M) (hp : H p = none) (r : RepL g H mu ps vs) : Post g H (upd H p (.tup vs)) mu M (.p (.tup ps)) (.ref p) := by
  refine ⟨st.upd hp, ?_⟩
  show Rep _ _ _ _ _
  unfold Rep
  exact ⟨p, vs, rfl, st.fresh (nt_none hp), upd_same, r.mono (Le.upd hp)⟩
theorem rep_bl {b : Bool} : Rep g H e (.bl b) (.bl b) := by unfold Rep; rfl
theorem post_bl {H₀ : Hp} {mu : List Addr} {M : Sto} {b : Bool} (st : StoOk g H mu mu M) : Post g H₀ H mu M (.p (.bl b)) (.bl b) := ⟨st, by show Rep _ _ _ _ _; unfold Rep; rfl⟩
theorem post_int {H₀ : Hp} {mu : List Addr} {M : Sto} {b : Int} (st : StoOk g H mu mu M) : Post g H₀ H mu M (.p (.int b)) (.int b) := ⟨st, by show Rep _ _ _ _ _; unfold Rep; rfl⟩
theorem post_str {H₀ : Hp} {mu : List Addr} {M : Sto} {b : Str} (st : StoOk g H mu mu M) : Post g H₀ H mu M (.p (.str b)) (.str b) := ⟨st, by show Rep _ _ _ _ _; unfold Rep; rfl⟩
theorem post_p {H₀ : Hp} {mu : List Addr} {M : Sto} {p : P} {v : V} (st : StoOk g H mu mu M) (r : Rep g H mu p v) : Post g H₀ H mu M (.p p) v := ⟨st, r⟩
end

/-! ### bools among ints -/
section
variable {X : Cx}
theorem op_add_bi : OpR X (binaryOp .Add) (fun x y H Q => ∃ k i, x = .bl k ∧ y = .int i ∧ Q (.int (b2i k + i)) H) := by
  intro pins s σ H x y v u Q I rx ry h
  obtain ⟨k, i, rfl, rfl, q⟩ := h
  obtain ⟨t, rfl⟩ := ry
  cases rx
  exact IntBool.add_bool_int ⟨.int (b2i k + i), H, I.tok _, ⟨_, rfl⟩, q⟩
theorem op_sub_bi : OpR X (binaryOp .Sub) (fun x y H Q => ∃ k i, x = .bl k ∧ y = .int i ∧ Q (.int (b2i k - i)) H) := by
  intro pins s σ H x y v u Q I rx ry h
  obtain ⟨k, i, rfl, rfl, q⟩ := h
  obtain ⟨t, rfl⟩ := ry
  cases rx
  exact IntBool.sub_bool_int ⟨.int (b2i k - i), H, I.tok _, ⟨_, rfl⟩, q⟩
theorem un_negb : UnR X (unaryOp .USub) (fun x H Q => ∃ k, x = .bl k ∧ Q (.int (-(b2i k))) H) := by
  intro pins s σ H x v Q I rx h
  obtain ⟨k, rfl, q⟩ := h
  cases rx
  exact unaryOp_gives (op := .USub) (T := "bool") rfl rfl F.slot_bool_neg F.entry_int_neg (F.args_int_neg_1 _) (show Gives (Builtin.«int.__neg__» ⟨[.bool k], []⟩) (.int (-(b2i k))) from by cases k <;> exact .of_eq rfl) ⟨.int (-(b2i k)), H, I.tok _, ⟨_, rfl⟩, q⟩
theorem call_str_bool : CallR X (.type "str") (fun xs H Q => ∃ k, xs = [.bl k] ∧ Q (.str (if k then "True" else "False")) H) := by
  intro pins s σ H xs us Q I r h
  obtain ⟨k, rfl, q⟩ := h
  obtain ⟨u, rfl, r1⟩ := vals1 r
  cases r1
  exact PySem.P.str_of_bool ⟨.str _, H, I.tok _, ⟨_, rfl⟩, q⟩
end

/-! ### + -/
def oAdd : P → P → Option D
  | .int i, .int j => some (.p (.int (i + j)))
  | .int i, .bl b => some (.p (.int (i + b2i b)))
  | .bl a, .int j => some (.p (.int (b2i a + j)))
  | .str a, .str b => if a.length + b.length ≤ lim then some (.p (.str (a ++ b))) else none
  | .lst a, .lst b => if a.length + b.length ≤ lim then some (.nw (a ++ b)) else none
  | .tup a, .tup b => if a.length + b.length ≤ lim then some (.p (.tup (a ++ b))) else none
  | _, _ => none
section
variable {X : Cx}
theorem op2_int {f : Value → Value → Sem Value} {C : Int → Int → Prop} {k : Int → Int → V} {o : P → P → Option D} (h : OpR X f (rI C k))
    (i : ∀ p q d, o p q = some d → ∃ i j r, p = .int i ∧ q = .int j ∧ d = .p r ∧ C i j ∧ ∀ H mu, Rep X.g H mu r (k i j)) : Op2 X f o :=
  OpR.imp h fun x y H Q ⟨mu, M, p, q, d, st, rx, ry, e, hq⟩ => by
    obtain ⟨i, j, r, rfl, rfl, rfl, c, hr⟩ := i p q d e
    exact ⟨i, j, rd_int rx, rd_int ry, c, hq _ H (Le.refl _ _) ⟨st, hr H mu⟩⟩
theorem op2_int0 {f : Value → Value → Sem Value} {k : Int → Int → V} {o : P → P → Option D} (h : OpR X f (rI0 k))
    (i : ∀ p q d, o p q = some d → ∃ i j r, p = .int i ∧ q = .int j ∧ d = .p r ∧ ∀ H mu, Rep X.g H mu r (k i j)) : Op2 X f o :=
  OpR.imp h fun x y H Q ⟨mu, M, p, q, d, st, rx, ry, e, hq⟩ => by
    obtain ⟨i, j, r, rfl, rfl, rfl, hr⟩ := i p q d e
    exact ⟨i, j, rd_int rx, rd_int ry, hq _ H (Le.refl _ _) ⟨st, hr H mu⟩⟩
theorem o_add : Op2 X (binaryOp .Add) oAdd := by
  refine OpR.imp ((op_add_ib.or op_add_bi).or ((op_add.or op_add_str).or ((op_cat (X := X)).or op_catA))) fun x y H Q h => ?_
  obtain ⟨mu, M, p, q, d, st, rx, ry, e, hq⟩ := h
  unfold oAdd at e
  split at e
  · cases e
    exact .inr (.inl (.inl ⟨_, _, rd_int rx, rd_int ry, hq _ H (Le.refl _ _) ⟨st, by show Rep _ _ _ _ _; unfold Rep; rfl⟩⟩))
  · cases e
    exact .inl (.inl ⟨_, _, rd_int rx, rd_bl ry, hq _ H (Le.refl _ _) ⟨st, by show Rep _ _ _ _ _; unfold Rep; rfl⟩⟩)
  · cases e
    exact .inl (.inr ⟨_, _, rd_bl rx, rd_int ry, hq _ H (Le.refl _ _) ⟨st, by show Rep _ _ _ _ _; unfold Rep; rfl⟩⟩)
  · refine .inr ?_
    split at e
    · rename_i hl
      cases e
      exact .inl (.inr ⟨_, _, rd_str rx, rd_str ry, lim_le hl, hq _ H (Le.refl _ _) ⟨st, by show Rep _ _ _ _ _; unfold Rep; rfl⟩⟩)
    · cases e
  · refine .inr ?_
    split at e
    · rename_i hl
      cases e
      obtain ⟨a, vs, rfl, h1, h2⟩ := rd_lst rx
      obtain ⟨b, ws, rfl, k1, k2⟩ := rd_lst ry
      refine .inr (.inl ⟨a, b, vs, ws, rfl, rfl, h1, k1, ?_, fun p hp => hq _ _ (Le.upd hp) (post_nw st hp (h2.append k2))⟩)
      rw [h2.length, k2.length]
      exact lim_le hl
    · cases e
  · refine .inr ?_
    split at e
    · rename_i hl
      cases e
      obtain ⟨a, vs, rfl, ha, h1, h2⟩ := rd_tup rx
      obtain ⟨b, ws, rfl, hb, k1, k2⟩ := rd_tup ry
      refine .inr (.inr ⟨a, b, vs, ws, rfl, rfl, .of h1, .of k1, ?_, fun z => ?_, fun _ z => ?_, fun _ _ p hp => hq _ _ (Le.upd hp) (post_tup st hp (h2.append k2))⟩)
      · rw [h2.length, k2.length]
        exact lim_le hl
      · have z' := h2.length
        rw [z] at z'
        have z2 := List.eq_nil_of_length_eq_zero z'.symm
        subst z2
        refine hq _ H (Le.refl _ _) ⟨st, ?_⟩
        show Rep _ _ _ _ _
        unfold Rep
        exact ⟨b, ws, rfl, hb, k1, k2⟩
      · have z' := k2.length
        rw [z] at z'
        have z2 := List.eq_nil_of_length_eq_zero z'.symm
        subst z2
        refine hq _ H (Le.refl _ _) ⟨st, ?_⟩
        show Rep _ _ _ _ _
        unfold Rep
        rw [List.append_nil]
        exact ⟨a, vs, rfl, ha, h1, h2⟩
    · cases e
  · cases e

/-! ### ints -/
def oSub : P → P → Option D
  | .int i, .int j => some (.p (.int (i - j)))
  | .bl a, .int j => some (.p (.int (b2i a - j)))
  | _, _ => none
theorem o_sub : Op2 X (binaryOp .Sub) oSub := OpR.imp (op_sub.or op_sub_bi) fun x y H Q h => by
  obtain ⟨mu, M, p, q, d, st, rx, ry, e, hq⟩ := h
  unfold oSub at e
  split at e
  · cases e
    exact .inl ⟨_, _, rd_int rx, rd_int ry, hq _ H (Le.refl _ _) ⟨st, by show Rep _ _ _ _ _; unfold Rep; rfl⟩⟩
  · cases e
    exact .inr ⟨_, _, rd_bl rx, rd_int ry, hq _ H (Le.refl _ _) ⟨st, by show Rep _ _ _ _ _; unfold Rep; rfl⟩⟩
  · cases e
/-- both factors together below a million bits, or one of them small -/
def mulOk (i j : Int) : Bool := (decide (-(2 ^ 64) < i) && decide (i < 2 ^ 64)) || ((decide (-(2 ^ 64) < j) && decide (j < 2 ^ 64)) || (decide (i.natAbs < 2 ^ 1000) && decide (j.natAbs < 2 ^ 1000)))
theorem mulOk_ok {i j : Int} (h : mulOk i j = true) : CMul i j ∨ CMulW i j := by
  unfold mulOk at h
  simp only [Bool.or_eq_true, Bool.and_eq_true, decide_eq_true_eq] at h
  rcases h with h | h | h
  · exact .inl (.inl h)
  · exact .inl (.inr h)
  · exact .inr (wide_mul h.1 h.2 (by decide) (by decide) (by decide))
theorem op_mul2 : OpR X (binaryOp .Mult) (rI (fun i j => mulOk i j = true) fun i j => .int (i * j)) :=
  OpR.imp (op_mul.or op_mulW) fun x y H Q h => by
    obtain ⟨i, j, rfl, rfl, c, q⟩ := h
    rcases mulOk_ok c with c | c
    · exact .inl ⟨i, j, rfl, rfl, c, q⟩
    · exact .inr ⟨i, j, rfl, rfl, c, q⟩
/-- a text times a number -/
def strRepN (a : Str) (k : Int) : Str := if k < 1 then Str.empty else if (k == 1 || a.length == 0) = true then a else ⟨(List.replicate k.toNat a.cps).foldl (· ++ ·) #[]⟩
theorem foldl_sz {α : Type} (l : Array α) : ∀ (n : Nat) (acc : Array α), ((List.replicate n l).foldl (· ++ ·) acc).size = acc.size + l.size * n
  | 0, acc => by simp
  | n + 1, acc => by
    rw [List.replicate_succ, List.foldl_cons, foldl_sz l n, Array.size_append, Nat.mul_succ]
    omega
theorem op_mulS : OpR X (binaryOp .Mult) (fun x y H Q => ∃ a k, x = .str a ∧ y = .int k ∧ -(1000000 : Int) ≤ k ∧ k ≤ 1000000 ∧ a.length * k.toNat ≤ sizeLine ∧ Q (.str (strRepN a k)) H) := by
  intro pins s σ H x y v u Q I rx ry h
  obtain ⟨a, k, rfl, rfl, h1, h2, hz, q⟩ := h
  obtain ⟨t, rfl⟩ := rx
  obtain ⟨t', rfl⟩ := ry
  have hsz : sizeLine = 16777216 ∨ True := .inr trivial
  refine P.mul_str (by rw [decide_eq_false (by omega), decide_eq_false (by omega)]; rfl) (fun h0 _ => ?_) (fun _ _ => ?_) ?_
  · intro hh
    have hk : 0 < k := by omega
    have e : k = (k.toNat : Int) := by omega
    have hle : (a.length : Int) * k ≤ (sizeLine : Int) := by rw [e]; exact_mod_cast hz
    have hs : (sizeLine : Int) < 2 ^ 63 - 1 := by decide
    have : (a.length : Int) ≤ (2 ^ 63 - 1) / k := (Int.le_ediv_iff_mul_le hk).mpr (by omega)
    omega
  · unfold Builtin.Str.tooLong
    exact decide_eq_false (by omega)
  · unfold strRepN at q
    by_cases c1 : k < 1
    · rw [if_pos c1] at q ⊢
      exact ⟨by decide, ⟨.str Str.empty, H, I.tok _, ⟨_, rfl⟩, q⟩⟩
    · rw [if_neg c1] at q ⊢
      by_cases c2 : (k == 1 || a.length == 0) = true
      · rw [if_pos c2] at q ⊢
        exact ⟨.str a, H, I, ⟨_, rfl⟩, q⟩
      · rw [if_neg c2] at q ⊢
        refine ⟨?_, ⟨.str _, H, I.tok _, ⟨_, rfl⟩, q⟩⟩
        show (List.foldl (fun x1 x2 => x1 ++ x2) #[] (List.replicate k.toNat a.cps)).size ≤ sizeLine
        rw [foldl_sz]
        have e0 : (#[] : Array Nat).size = 0 := rfl
        have e1 : a.length = a.cps.size := rfl
        rw [e1] at hz
        simpa using hz
def oMul : P → P → Option D
  | .int i, .int j => if mulOk i j then some (.p (.int (i * j))) else none
  | .str a, .int k => if a.length * k.toNat ≤ lim ∧ k ≤ lim ∧ -lim ≤ k then some (.p (.str (strRepN a k))) else none
  | .lst a, .int k => if a.length * k.toNat ≤ lim ∧ k ≤ lim ∧ -lim ≤ k then some (.nw (List.replicate k.toNat a).flatten) else none
  | .tup a, .int k => if a ≠ [] ∧ 2 ≤ k ∧ k ≤ 1000 ∧ a.length ≤ 1000 then some (.p (.tup (List.replicate k.toNat a).flatten)) else none
  | _, _ => none
theorem repl_repL {g : Mg} {H : Hp} {e : List Addr} {ps : List P} {vs : List V} (h : RepL g H e ps vs) : ∀ n : Nat, RepL g H e (List.replicate n ps).flatten (List.replicate n vs).flatten
  | 0 => RepL.nil
  | n + 1 => by
    rw [List.replicate_succ, List.replicate_succ, List.flatten_cons, List.flatten_cons]
    exact h.append (repl_repL h n)
theorem o_mul : Op2 X (binaryOp .Mult) oMul := by
  refine OpR.imp ((op_mul2.or (op_rep (X := X))).or (op_mulS.or op_repT)) fun x y H Q h => ?_
  obtain ⟨mu, M, p, q, d, st, rx, ry, e, hq⟩ := h
  unfold oMul at e
  split at e
  · split at e
    · rename_i hc
      cases e
      exact .inl (.inl ⟨_, _, rd_int rx, rd_int ry, hc, hq _ H (Le.refl _ _) ⟨st, by show Rep _ _ _ _ _; unfold Rep; rfl⟩⟩)
    · cases e
  · split at e
    · rename_i hl
      cases e
      obtain ⟨l1, l2, l3⟩ := hl
      have e64 : lim = 1000000 := rfl
      exact .inr (.inl ⟨_, _, rd_str rx, rd_int ry, by omega, by omega, lim_le l1, hq _ H (Le.refl _ _) ⟨st, by show Rep _ _ _ _ _; unfold Rep; rfl⟩⟩)
    · cases e
  · split at e
    · rename_i hl
      cases e
      obtain ⟨a, vs, rfl, h1, h2⟩ := rd_lst rx
      obtain ⟨l1, l2, l3⟩ := hl
      have e64 : lim = 1000000 := rfl
      refine .inl (.inr ⟨a, _, vs, rfl, rd_int ry, h1, by omega, by omega, ?_, fun p hp => hq _ _ (Le.upd hp) (post_nw st hp (repl_repL h2 _))⟩)
      rw [h2.length]
      exact lim_le l1
    · cases e
  · split at e
    · rename_i hl
      cases e
      obtain ⟨a, vs, rfl, ha, h1, h2⟩ := rd_tup rx
      obtain ⟨l0, l1, l2, l3⟩ := hl
      refine .inr (.inr ⟨a, _, vs, rfl, rd_int ry, .of h1, fun z => l0 ?_, l1, l2, by rw [h2.length]; exact l3, fun p hp => hq _ _ (Le.upd hp) (post_tup st hp (repl_repL h2 _))⟩)
      have z' := h2.length
      rw [z] at z'
      exact List.eq_nil_of_length_eq_zero z'.symm
    · cases e
  · cases e
def oFdiv : P → P → Option D
  | .int i, .int j => if 0 < j ∧ j.natAbs < 2 ^ 1000 then some (.p (.int (i / j))) else none
  | _, _ => none
theorem o_fdiv : Op2 X (binaryOp .FloorDiv) oFdiv := op2_int op_fdivW fun p q d e => by
  unfold oFdiv at e
  split at e
  · split at e
    · rename_i h
      cases e; exact ⟨_, _, _, rfl, rfl, rfl, wide_div h.1 h.2 (by decide) (by decide), fun H mu => by unfold Rep; rfl⟩
    · cases e
  · cases e
def oMod : P → P → Option D
  | .int i, .int j => if 0 < j then some (.p (.int (i % j))) else none
  | _, _ => none
theorem o_mod : Op2 X (binaryOp .Mod) oMod := op2_int op_mod fun p q d e => by
  unfold oMod at e
  split at e
  · split at e
    · rename_i h
      cases e; exact ⟨_, _, _, rfl, rfl, rfl, h, fun H mu => by unfold Rep; rfl⟩
    · cases e
  · cases e
def oPow : P → P → Option D
  | .int i, .int j => if 0 ≤ j ∧ j ≤ 1000 ∧ i.natAbs < 2 ^ 64 then some (.p (.int (i ^ j.toNat))) else none
  | _, _ => none
theorem o_pow : Op2 X (binaryOp .Pow) oPow := op2_int op_pow fun p q d e => by
  unfold oPow at e
  split at e
  · split at e
    · rename_i h
      cases e; exact ⟨_, _, _, rfl, rfl, rfl, ⟨h.1, by omega, h.2.2⟩, fun H mu => by unfold Rep; rfl⟩
    · cases e
  · cases e
def oLt : P → P → Option D
  | .int i, .int j => some (.p (.bl (decide (i < j))))
  | _, _ => none
def oLe : P → P → Option D
  | .int i, .int j => some (.p (.bl (decide (i ≤ j))))
  | _, _ => none
def oGt : P → P → Option D
  | .int i, .int j => some (.p (.bl (decide (j < i))))
  | _, _ => none
def oGe : P → P → Option D
  | .int i, .int j => some (.p (.bl (decide (j ≤ i))))
  | _, _ => none
theorem o_lt : Op2 X (compareOp .Lt) oLt := op2_int0 op_lt fun p q d e => by
  unfold oLt at e
  split at e
  · cases e; exact ⟨_, _, _, rfl, rfl, rfl, fun H mu => by unfold Rep; rfl⟩
  · cases e
theorem o_le : Op2 X (compareOp .LtE) oLe := op2_int0 op_le fun p q d e => by
  unfold oLe at e
  split at e
  · cases e; exact ⟨_, _, _, rfl, rfl, rfl, fun H mu => by unfold Rep; rfl⟩
  · cases e
theorem o_gt : Op2 X (compareOp .Gt) oGt := op2_int0 op_gt fun p q d e => by
  unfold oGt at e
  split at e
  · cases e; exact ⟨_, _, _, rfl, rfl, rfl, fun H mu => by unfold Rep; rfl⟩
  · cases e
theorem o_ge : Op2 X (compareOp .GtE) oGe := op2_int0 op_ge fun p q d e => by
  unfold oGe at e
  split at e
  · cases e; exact ⟨_, _, _, rfl, rfl, rfl, fun H mu => by unfold Rep; rfl⟩
  · cases e

/-! ### is None, ==, in -/
def P.isN : P → Bool
  | .non => true
  | _ => false
def oIsN (p : P) : P → Option D
  | .non => some (.p (.bl p.isN))
  | _ => none
def oNotN (p : P) : P → Option D
  | .non => some (.p (.bl !p.isN))
  | _ => none
theorem rd_nn {g : Mg} {H : Hp} {e : List Addr} {p : P} {v : V} (h : RdP g H e p v) : decide (v = .non) = p.isN := by
  cases p with
  | non => rw [rd_non h]; rfl
  | bl _ => rw [rd_bl h]; rfl
  | int _ => rw [rd_int h]; rfl
  | str _ => rw [rd_str h]; rfl
  | tup _ => obtain ⟨a, vs, rfl, _⟩ := rd_tup h; rfl
  | lst _ => obtain ⟨a, vs, rfl, _⟩ := rd_lst h; rfl
  | fn _ =>
    have h := rd_rep h fun _ z => nomatch z
    unfold Rep at h
    obtain ⟨a, rfl, _⟩ := h; rfl
  | scr _ =>
    have h := rd_rep h fun _ z => nomatch z
    unfold Rep at h
    obtain ⟨a, rfl, _⟩ := h; rfl
  | adr _ =>
    have h := rd_rep h fun _ z => nomatch z
    unfold Rep at h
    rw [h]; rfl
theorem o_isN : Op2 X (compareOp .Is) oIsN := OpR.imp op_isN fun x y H Q ⟨mu, M, p, q, d, st, rx, ry, e, hq⟩ => by
  have hx := rd_nn rx
  unfold oIsN at e
  split at e
  · cases e
    exact ⟨rd_non ry, by rw [hx]; exact hq _ H (Le.refl _ _) (post_bl st)⟩
  · cases e
theorem o_notN : Op2 X (compareOp .IsNot) oNotN := OpR.imp op_notN fun x y H Q ⟨mu, M, p, q, d, st, rx, ry, e, hq⟩ => by
  have hx := rd_nn rx
  unfold oNotN at e
  split at e
  · cases e
    exact ⟨rd_non ry, by rw [hx]; exact hq _ H (Le.refl _ _) (post_bl st)⟩
  · cases e
mutual
def toPy : P → Option PyData
  | .non => some .none
  | .bl b => some (.bool b)
  | .int i => some (.int i)
  | .str s => some (.str s)
  | .tup ps => (toPyL ps).map .tuple
  | .lst ps => (toPyL ps).map .list
  | .fn _ => none
  | .scr _ => none
  | .adr _ => none
def toPyL : List P → Option (List PyData)
  | [] => some []
  | p :: ps => match toPy p, toPyL ps with
    | some d, some ds => some (d :: ds)
    | _, _ => none
end
mutual
theorem rep_dp {K : PySem.W.Frag} {g : Mg} {H : Hp} {e : List Addr} : ∀ {p : P} {v : V} {d : PyData}, Rep g H e p v → toPy p = some d → Dp K H v d
  | .non, v, d, h, k => by unfold Rep at h; unfold toPy at k; cases k; rw [h]; exact .non
  | .bl _, v, d, h, k => by unfold Rep at h; unfold toPy at k; cases k; rw [h]; exact .bl _
  | .int _, v, d, h, k => by unfold Rep at h; unfold toPy at k; cases k; rw [h]; exact .int _
  | .str _, v, d, h, k => by unfold Rep at h; unfold toPy at k; cases k; rw [h]; exact .str _
  | .tup ps, v, d, h, k => by
    unfold Rep at h; unfold toPy at k
    obtain ⟨a, vs, rfl, _, h1, h2⟩ := h
    cases hq : toPyL ps with
    | none => rw [hq] at k; cases k
    | some ds =>
      rw [hq] at k
      cases k
      exact .tup (.of h1) (rep_dpL h2 hq)
  | .lst ps, v, d, h, k => by
    unfold Rep at h; unfold toPy at k
    obtain ⟨a, vs, rfl, _, h1, h2⟩ := h
    cases hq : toPyL ps with
    | none => rw [hq] at k; cases k
    | some ds =>
      rw [hq] at k
      cases k
      exact .lst (.of h1) (rep_dpL h2 hq)
  | .fn _, v, d, h, k => by unfold toPy at k; cases k
  | .scr _, v, d, h, k => by unfold toPy at k; cases k
  | .adr _, v, d, h, k => by unfold toPy at k; cases k
theorem rep_dpL {K : PySem.W.Frag} {g : Mg} {H : Hp} {e : List Addr} : ∀ {ps : List P} {vs : List V} {ds : List PyData}, RepL g H e ps vs → toPyL ps = some ds → DpAll K H vs ds
  | [], vs, ds, h, k => by unfold toPyL at k; cases k; rw [h.nil_inv]; exact .nil
  | p :: ps, vs, ds, h, k => by
    obtain ⟨v, r, rfl, h1, h2⟩ := h.cons_inv
    unfold toPyL at k
    split at k
    · rename_i d ds' e1 e2
      cases k
      exact .cons (rep_dp h1 e1) (rep_dpL h2 e2)
    · cases k
end
theorem rd_dp {K : PySem.W.Frag} {g : Mg} {H : Hp} {e : List Addr} {p : P} {v : V} {d : PyData} (h : RdP g H e p v) (k : toPy p = some d) : Dp K H v d := by
  rcases h with h | ⟨ps, a, vs, rfl, rfl, h1, h2⟩
  · exact rep_dp h k
  · unfold toPy at k
    cases hq : toPyL ps with
    | none => rw [hq] at k; cases k
    | some ds =>
      rw [hq] at k
      cases k
      exact .lst (.of h1) (rep_dpL h2 hq)
/-- ==, where both are data of the fragment: flat ones at once -/
def eqB : P → P → Option Bool
  | .int i, .int j => some (decide (i = j))
  | .str i, .str j => some (decide (i = j))
  | p, q => match toPy p, toPy q with
    | some d, some e => if SeqAt.shaped d && SeqAt.shaped e then some (PyData.eqv d e) else none
    | _, _ => none
def oEq (p q : P) : Option D := (eqB p q).map fun b => .p (.bl b)
def oNe (p q : P) : Option D := (eqB p q).map fun b => .p (.bl !b)
theorem dec_eq_int {i j : Int} : decide (V.int i = V.int j) = decide (i = j) := by simp
theorem dec_eq_str {i j : Str} : decide (V.str i = V.str j) = decide (i = j) := by simp
theorem o_eq (hu : X.A.units + 64 < cLine) : Op2 X (compareOp .Eq) oEq := OpR.imp (op_eq.or (op_eqD hu)) fun x y H Q ⟨mu, M, p, q, d, st, rx, ry, e, hq⟩ => by
  unfold oEq at e
  cases hb : eqB p q with
  | none => rw [hb] at e; cases e
  | some b =>
    rw [hb] at e
    cases e
    have fin := hq (.bl b) H (Le.refl _ _) (post_bl st)
    unfold eqB at hb
    split at hb
    · cases hb
      rw [rd_int rx, rd_int ry]
      exact .inl ⟨rfl, by rw [dec_eq_int]; exact fin⟩
    · cases hb
      rw [rd_str rx, rd_str ry]
      exact .inl ⟨rfl, by rw [dec_eq_str]; exact fin⟩
    · split at hb
      · rename_i d1 d2 e1 e2
        split at hb
        · rename_i hs
          cases hb
          rw [Bool.and_eq_true] at hs
          exact .inr ⟨_, _, rd_dp rx e1, rd_dp ry e2, hs.1, hs.2, fin⟩
        · cases hb
      · cases hb
theorem o_ne (hu : X.A.units + 64 < cLine) : Op2 X (compareOp .NotEq) oNe := OpR.imp (op_ne.or (op_neD hu)) fun x y H Q ⟨mu, M, p, q, d, st, rx, ry, e, hq⟩ => by
  unfold oNe at e
  cases hb : eqB p q with
  | none => rw [hb] at e; cases e
  | some b =>
    rw [hb] at e
    cases e
    have fin := hq (.bl !b) H (Le.refl _ _) (post_bl st)
    unfold eqB at hb
    split at hb
    · cases hb
      rw [rd_int rx, rd_int ry]
      exact .inl ⟨rfl, by rw [dec_eq_int]; exact fin⟩
    · cases hb
      rw [rd_str rx, rd_str ry]
      exact .inl ⟨rfl, by rw [dec_eq_str]; exact fin⟩
    · split at hb
      · rename_i d1 d2 e1 e2
        split at hb
        · rename_i hs
          cases hb
          rw [Bool.and_eq_true] at hs
          exact .inr ⟨_, _, rd_dp rx e1, rd_dp ry e2, hs.1, hs.2, fin⟩
        · cases hb
      · cases hb
/-- flat data -/
def flatP : P → Option V
  | .non => some .non
  | .bl b => some (.bl b)
  | .int i => some (.int i)
  | .str s => some (.str s)
  | _ => none
def flatL : List P → Option (List V)
  | [] => some []
  | p :: ps => match flatP p, flatL ps with
    | some v, some vs => some (v :: vs)
    | _, _ => none
theorem flat_rep {g : Mg} {H : Hp} {e : List Addr} {p : P} {v w : V} (h : Rep g H e p v) (k : flatP p = some w) : v = w ∧ flatV w = true := by
  cases p <;> simp only [flatP, Option.some.injEq, reduceCtorEq] at k <;> (unfold Rep at h; subst k; subst h; exact ⟨rfl, rfl⟩)
theorem flat_repL {g : Mg} {H : Hp} {e : List Addr} : ∀ {ps : List P} {vs ws : List V}, RepL g H e ps vs → flatL ps = some ws → vs = ws ∧ ws.all flatV = true
  | [], vs, ws, h, k => by unfold flatL at k; cases k; exact ⟨h.nil_inv, rfl⟩
  | p :: ps, vs, ws, h, k => by
    obtain ⟨v, r, rfl, h1, h2⟩ := h.cons_inv
    unfold flatL at k
    split at k
    · rename_i w ws' e1 e2
      cases k
      obtain ⟨a1, a2⟩ := flat_rep h1 e1
      obtain ⟨b1, b2⟩ := flat_repL h2 e2
      exact ⟨by rw [a1, b1], by rw [List.all_cons, a2, b2]; rfl⟩
    · cases k
/-- is it in? -/
def inB : P → P → Option Bool
  | .str a, .str b => match a.cps.toList with
    | [c] => some (decide (c ∈ b.cps.toList))
    | _ => none
  | p, .lst qs => match flatP p, flatL qs with
    | some v, some vs => some (inV v vs)
    | _, _ => none
  | p, .tup qs => match flatP p, flatL qs with
    | some v, some vs => some (inV v vs)
    | _, _ => none
  | _, _ => none
def oIn (p q : P) : Option D := (inB p q).map fun b => .p (.bl b)
def oNotIn (p q : P) : Option D := (inB p q).map fun b => .p (.bl !b)
theorem one_sign {a : Str} {c : Nat} (h : a.cps.toList = [c]) : a = ⟨#[c]⟩ := by
  cases a with
  | mk cps => rw [Str.mk.injEq]; exact Array.toList_inj.mp h
theorem in_cases {g : Mg} {H : Hp} {e : List Addr} {p q : P} {x y : V} {b : Bool} (rx : RdP g H e p x) (ry : RdP g H e q y) (hb : inB p q = some b) :
    (∃ (c : Nat) (z : Str), x = .str ⟨#[c]⟩ ∧ y = .str z ∧ b = decide (c ∈ z.cps.toList)) ∨ (∃ a xs, y = .ref a ∧ (H a = some (.lst xs) ∨ H a = some (.tup xs)) ∧ flatV x = true ∧ xs.all flatV = true ∧ b = inV x xs) := by
  unfold inB at hb
  split at hb
  · split at hb
    · rename_i c hc
      cases hb
      exact .inl ⟨c, _, by rw [rd_str rx, one_sign hc], rd_str ry, rfl⟩
    · cases hb
  · split at hb
    · rename_i v vs e1 e2
      cases hb
      obtain ⟨a, xs, rfl, h1, h2⟩ := rd_lst ry
      have rx' := rd_rep rx fun ps z => by subst z; cases e1
      obtain ⟨rfl, fx⟩ := flat_rep rx' e1
      obtain ⟨rfl, fl⟩ := flat_repL h2 e2
      exact .inr ⟨a, _, rfl, .inl h1, fx, fl, rfl⟩
    · cases hb
  · split at hb
    · rename_i v vs e1 e2
      cases hb
      obtain ⟨a, xs, rfl, _, h1, h2⟩ := rd_tup ry
      have rx' := rd_rep rx fun ps z => by subst z; cases e1
      obtain ⟨rfl, fx⟩ := flat_rep rx' e1
      obtain ⟨rfl, fl⟩ := flat_repL h2 e2
      exact .inr ⟨a, _, rfl, .inr h1, fx, fl, rfl⟩
    · cases hb
  · cases hb
theorem o_in : Op2 X (compareOp .In) oIn := OpR.imp (op_in_sign.or op_in_seq) fun x y H Q ⟨mu, M, p, q, d, st, rx, ry, e, hq⟩ => by
  unfold oIn at e
  cases hb : inB p q with
  | none => rw [hb] at e; cases e
  | some b =>
    rw [hb] at e
    cases e
    have fin := hq (.bl b) H (Le.refl _ _) (post_bl st)
    rcases in_cases rx ry hb with ⟨c, z, rfl, rfl, rfl⟩ | ⟨a, xs, rfl, h, fx, fl, rfl⟩
    · exact .inl ⟨c, z, rfl, rfl, fin⟩
    · refine .inr ⟨a, xs, rfl, ?_, fx, fl, fin⟩
      rcases h with h | h
      · exact .inl (.of h)
      · exact .inr (.of h)
theorem o_notIn : Op2 X (compareOp .NotIn) oNotIn := OpR.imp (op_notIn_sign.or op_notIn_seq) fun x y H Q ⟨mu, M, p, q, d, st, rx, ry, e, hq⟩ => by
  unfold oNotIn at e
  cases hb : inB p q with
  | none => rw [hb] at e; cases e
  | some b =>
    rw [hb] at e
    cases e
    have fin := hq (.bl !b) H (Le.refl _ _) (post_bl st)
    rcases in_cases rx ry hb with ⟨c, z, rfl, rfl, rfl⟩ | ⟨a, xs, rfl, h, fx, fl, rfl⟩
    · exact .inl ⟨c, z, rfl, rfl, fin⟩
    · refine .inr ⟨a, xs, rfl, ?_, fx, fl, fin⟩
      rcases h with h | h
      · exact .inl (.of h)
      · exact .inr (.of h)
end
end Ev

set_option Elab.async false
set_option linter.all false
set_option maxRecDepth 100000
set_option maxHeartbeats 4000000
/-! Core4: tests, and/or/not, displays, subscripts, slices. -/
namespace HT
open PySem PySem.Spec PyProof.Rows
section
variable {prog : Program} {w : World} {A : Around} {E : Value → Shared → Prop} {s : Shared}
theorem sliceApplied_rev {sl : Addr} {vs : Value} {n : Nat} {Q : Int × Int × Nat → Shared → Prop} (hs : s.heap.IsSliceOf sl .none .none vs) (ps : IsPart vs (some (-1)))
    (h : Q (((n : Int) - 1), -1, n) s) : wpAny (model prog w) A (Builtin.Slice.sliceApplied (.ref sl) (pure (n : Int))) Q E s := by
  obtain ⟨os, hos, hcs, hds⟩ := id hs
  unfold Builtin.Slice.sliceApplied Builtin.Slice.sliceFields
  refine wpAny_bind (wpAny_bind (wpAny_field hos hds (x := .none) rfl (wpAny_bind (wpAny_field hos hds (x := .none) rfl (wpAny_bind (wpAny_field hos hds (x := vs) rfl (wpAny_pure ?_)))))))
  refine wpAny_bind (slicePart_ ps ?_)
  show wpAny _ _ (if ((-1 : Int) == 0) = true then _ else _) _ _ s
  rw [if_neg (by decide)]
  refine wpAny_bind (slicePart_none (wpAny_bind (slicePart_none (wpAny_bind (wpAny_pure ?_)))))
  show wpAny _ _ (match Builtin.Slice.sliceAdjust none none (-1) (n : Int) with | (lo, hi) => pure (lo, (-1 : Int), Builtin.Slice.slicePlaces lo hi (-1))) _ _ s
  have e1 : Builtin.Slice.sliceAdjust none none (-1) (n : Int) = ((n : Int) - 1, -1) := by
    unfold Builtin.Slice.sliceAdjust
    simp
  have e2 : Builtin.Slice.slicePlaces ((n : Int) - 1) (-1) (-1) = n := by
    unfold Builtin.Slice.slicePlaces
    simp
    split <;> omega
  rw [e1]
  show wpAny _ _ (pure ((n : Int) - 1, (-1 : Int), Builtin.Slice.slicePlaces ((n : Int) - 1) (-1) (-1))) _ _ s
  rw [e2]
  exact wpAny_pure h
theorem fm_congr {α β : Type} {f g : α → Option β} : ∀ {l : List α}, (∀ x ∈ l, f x = g x) → l.filterMap f = l.filterMap g
  | [], _ => rfl
  | a :: r, h => by
    rw [List.filterMap_cons, List.filterMap_cons, h a List.mem_cons_self, fm_congr fun x hx => h x (List.mem_cons_of_mem _ hx)]
theorem pick_rev (xs : Array Value) : ((List.range xs.size).filterMap fun (m : Nat) => xs[(((xs.size : Int) - 1) + (m : Int) * (-1)).toNat]?).toArray = xs.toList.reverse.toArray := by
  have e : ((List.range xs.size).filterMap fun (m : Nat) => xs[(((xs.size : Int) - 1) + (m : Int) * (-1)).toNat]?) = ((List.range xs.size).map fun k => xs.size - 1 - k).filterMap (xs[·]?) := by
    rw [List.filterMap_map]
    refine fm_congr fun m hm => ?_
    have h : m < xs.size := List.mem_range.mp hm
    show xs[(((xs.size : Int) - 1) + (m : Int) * (-1)).toNat]? = xs[xs.size - 1 - m]?
    congr 1
    omega
  rw [e, PySem.W.krv_range, List.filterMap_reverse, PySem.W.krv_all]
theorem getItem_tuple_rev {t sl : Addr} {items : Array Value} {vs : Value} {Q : Value → Shared → Prop} (ht : IsTup s.heap t items) (hs : s.heap.IsSliceOf sl .none .none vs) (ps : IsPart vs (some (-1)))
    (h : Q (.ref s.heap.objs.size) { s with heap := s.heap.push { cls := .type "tuple", data := .seq items.toList.reverse.toArray } })
    (hsz : items.size ≤ sizeLine) : wpAny (model prog w) A (getItem (.ref t) (.ref sl)) Q E s := by
  have htake : sizeOk (.seq items.toList.reverse.toArray) := by
    show items.toList.reverse.toArray.size ≤ sizeLine
    rw [List.size_toArray, List.length_reverse, Array.length_toList]
    exact hsz
  obtain ⟨os, hos, hcs, hds⟩ := id hs
  have hTs : s.TypeIs (.ref sl) "slice" := ⟨os, hos, hcs⟩
  unfold getItem
  try with_reducible refine wpAny_holding ?_
  first | refine wpAny_bind (wpAny_pure ?_) | skip
  refine wpAny_bind (wpAny_sequenceKey ht.typeIs (by decide) ?_)
  refine wpAny_bind (wpAny_callSpecial?_slot (name := Str.ofString "__getitem__") ht.typeIs PyProof.Rows.slot_tuple_getitem
    (wpAny_call_entry PyProof.Rows.slot_tuple_getitem ht.typeIs entry_tuple_getitem ?_ (args_tuple_getitem _ _)))
  show wpAny _ _ (Builtin.Tuple.tupleItemsOf (.ref t) >>= _) _ _ s
  refine wpAny_bind (tupleItemsOf_ ht ?_)
  refine wpAny_bind (wpAny_typeOf hTs ?_)
  rw [if_pos (by decide)]
  refine wpAny_bind (sliceApplied_rev hs ps ?_)
  have hno : ¬ (((((items.size : Int) - 1) == 0) && (-1 : Int) == 1 && items.size == items.size) = true) := by
    intro q
    rw [Bool.and_eq_true, Bool.and_eq_true] at q
    exact absurd q.1.2 (by decide)
  show wpAny _ _ (if (((((items.size : Int) - 1) == 0) && (-1 : Int) == 1 && items.size == items.size) = true) then _ else _) _ _ s
  rw [if_neg hno, pick_rev]
  first
    | exact wpAny_bind (m := Builtin.Tuple.tupleExact _) (wpAny_newObj_type (wpAny_pure ⟨_, rfl, wpAny_pure h⟩) htake)
    | exact wpAny_bind (m := Builtin.Tuple.tupleExact _) (wpAny_newObj_type (wpAny_bind (wpAny_pure (wpAny_pure ⟨_, rfl, wpAny_pure h⟩))) htake)
    | exact wpAny_bind (wpAny_bind (m := Builtin.Tuple.tupleExact _) (wpAny_newObj_type (wpAny_pure (wpAny_pure ⟨_, rfl, wpAny_pure h⟩)) htake))
    | exact wpAny_bind (wpAny_bind (m := Builtin.Tuple.tupleExact _) (wpAny_newObj_type (wpAny_pure ⟨_, rfl, wpAny_pure h⟩) htake))
end
end HT
namespace L2
open PySem PySem.Spec PyProof.Rows
section
variable {X : Cx}
/-- t[::-1] -/
def tRevT (K : PySem.W.Frag) (te : TE) : TE := fun σ H Q => te σ H fun x H1 => ∃ a xs, x = .ref a ∧ SqT K H1 a xs ∧ ∀ p, H1 p = none → Q (.ref p) (upd H1 p (.tup xs.reverse))
theorem pe_revT {e : Expr} {te : TE} {k : Nat} {p1 p2 p3 pos : Pos} (he : PE X e te) : PE X (.Subscript e (.Slice none none (some (.UnaryOp .USub (.Constant (.int 1) k p1) p2)) p3) pos) (tRevT X.K te) := by
  refine ⟨fun pins s σ H Q I h => ?_⟩
  refine Subscript_ (thn (he.run pins s σ H _ I h) fun v s1 ⟨x, H1, I1, r1, q1⟩ => ?_)
  obtain ⟨a, xs, ex, hx, q⟩ := q1
  subst ex
  cases r1
  have hst : PO X (some (.UnaryOp .USub (.Constant (.int 1) k p1) p2)) (tPart (tUn (rU fun i => .int (-i)) (tC (.int 1)))) := po_some (pe_un un_neg pe_int)
  refine wpAny_Slice (thn (po_none.run pins s1 σ H1 (fun o H2 => o = none ∧ H2 = H1) I1 ⟨rfl, rfl⟩) fun vl s2 ⟨l, H2, I2, pl, el, e2⟩ => ?_)
  subst el e2
  refine thn (po_none.run pins s2 σ H2 (fun o H3 => o = none ∧ H3 = H2) I2 ⟨rfl, rfl⟩) fun vu s3 ⟨u, H3, I3, pu, eu, e3⟩ => ?_
  subst eu e3
  refine thn (hst.run pins s3 σ H3 (fun o H4 => o = some (-1) ∧ H4 = H3) I3 ⟨1, rfl, -1, rfl, rfl, rfl⟩) fun vs s4 ⟨o, H4, I4, ps, eo, e4⟩ => ?_
  subst eo e4
  cases pl
  cases pu
  have I5 : Inv X pins σ H4 { s4 with heap := s4.heap.push { cls := .type "slice", data := .fields #[.none, .none, vs] } } := I4.kept (t' := s4.toks) fun b ob q => Heap.get?_push_of_some _ q
  obtain ⟨its, r, ht, hz⟩ := I5.tuple hx
  have hlen := r.length
  show wpAny (model X.prog X.w) X.A (subscriptTail e (.Slice none none (some (.UnaryOp .USub (.Constant (.int 1) k p1) p2)) p3) (.ref a) (.ref s4.heap.objs.size)) (EP X pins σ Q) X.xe { s4 with heap := s4.heap.push { cls := .type "slice", data := .fields #[.none, .none, vs] } }
  refine tail_any (ops := [.ref a, .ref s4.heap.objs.size]) ht.typeIs (PyProof.Rows.slot_tuple_getitem.lookup) ?_ (by with_unfolding_all rfl)
  refine HT.getItem_tuple_rev ht (Heap.IsSliceOf.new _ .none .none vs) ps ?_ (by rw [List.size_toArray]; omega)
  refine ⟨.ref _, _, I5.laid (t' := s4.toks) (o := .tup xs.reverse) (fun b ob q => Heap.get?_push_of_some _ q) (Nat.le_refl _) ?_, rfl, q _ (I5.hok.fresh (Nat.le_refl _))⟩
  exact ⟨by rw [List.length_reverse]; exact hz, _, r.reverse, IsTup.new _ _⟩
end
end L2
namespace Ev
open PySem PySem.Spec PyProof.Rows L2

/-! ### tests -/
abbrev EvB := Fr → Sto → Out Bool
def PostB (g : Mg) (H : Hp) (mu : List Addr) (τ : L2.St) (W : WX) (o : Out Bool) (Q : Bool → Hp → Prop) : Prop :=
  match o with
  | .ok b M' => ∀ H' mu', Le H mu H' mu' → StoOk g H' mu' mu' M' → Q b H'
  | .er c n M' => ∀ cls dd H' mu', Le H mu H' mu' → StoOk g H' mu' mu' M' → ExcR g c n cls dd H' → W cls dd τ H'
  | .no => False
def tTr (g : Mg) (W : WX) (f : EvB) : TT := fun τ H Q => ∃ σ M mu, SlOk g H mu σ τ ∧ StoOk g H mu mu M ∧ PostB g H mu τ W (f σ M) Q
def PTv (X : Cx) (e : Expr) (f : EvB) : Prop := ∀ W, L2N.Takes X W → PT X e (tTr X.g W f)
def PWv (X : Cx) (e : Expr) (f : EvB) : Prop := ∀ W, L2N.Takes X W → PW X e (tTr X.g W f)
theorem PT.imp {X : Cx} {e : Expr} {t t' : TT} (h : PT X e t) (i : ∀ τ H Q, t' τ H Q → t τ H Q) : PT X e t' := ⟨fun pins s σ H Q I q => h.run pins s σ H Q I (i σ H Q q)⟩
theorem PW.imp {X : Cx} {e : Expr} {t t' : TT} (h : PW X e t) (i : ∀ τ H Q, t' τ H Q → t τ H Q) : PW X e t' := ⟨fun wh pins s σ H Q I q => h.run wh pins s σ H Q I (i σ H Q q)⟩
/-- truth of data -/
def P.tru : P → Option Bool
  | .non => some false
  | .bl b => some b
  | .int i => some (decide (i ≠ 0))
  | .str s => if s.length ≤ lim then some (decide (s.length ≠ 0)) else none
  | .tup ps => some (!ps.isEmpty)
  | .lst ps => some (!ps.isEmpty)
  | _ => none
/-- the truth of an expression that gives a bool; of any -/
def bOf (f : EvD) : EvB := fun σ M => (f σ M).bind fun d M1 => match d with
  | .p (.bl b) => .ok b M1
  | _ => .no
def bTru (f : EvD) : EvB := fun σ M => (f σ M).bind fun d M1 => match d.get M1 with
  | some p => (match p.tru with
    | some b => .ok b M1
    | none => .no)
  | none => .no
def bNot (f : EvB) : EvB := fun σ M => (f σ M).bind fun b M1 => .ok (!b) M1
def bAnd (f k : EvB) : EvB := fun σ M => (f σ M).bind fun b M1 => if b = true then k σ M1 else .ok false M1
def bOr (f k : EvB) : EvB := fun σ M => (f σ M).bind fun b M1 => if b = true then .ok true M1 else k σ M1
section
variable {g : Mg} {H H' : Hp} {mu mu' : List Addr} {τ : L2.St} {W : WX} {Q Q' : VK} {QB QB' : Bool → Hp → Prop}
theorem PostB.shift {o : Out Bool} (l : Le H mu H' mu') (h : PostB g H mu τ W o QB) : PostB g H' mu' τ W o QB := by
  cases o with
  | ok d M => exact fun H2 mu2 l2 p => h H2 mu2 (l.trans l2) p
  | er c n M => exact fun cls dd H2 mu2 l2 s x => h cls dd H2 mu2 (l.trans l2) s x
  | no => exact h
theorem PostB.mono {o : Out Bool} (h : PostB g H mu τ W o QB) (i : ∀ v H', QB v H' → QB' v H') : PostB g H mu τ W o QB' := by
  cases o with
  | ok d M => exact fun H2 mu2 l2 p => i _ _ (h H2 mu2 l2 p)
  | er c n M => exact h
  | no => exact h
theorem PostO.bindB {o : Out D} {k : D → Sto → Out Bool} (h : PostB g H mu τ W (o.bind k) QB) : PostO g H mu τ W o (Then g H mu fun d M' H' mu' => PostB g H' mu' τ W (k d M') QB) := by
  cases o with
  | ok d M => exact fun v H2 mu2 l2 p => ⟨mu2, d, M, l2, p.val.1, p.val.2, PostB.shift l2 h⟩
  | er c n M => exact h
  | no => exact h.elim
theorem PostB.bindB {o : Out Bool} {k : Bool → Sto → Out Bool} (h : PostB g H mu τ W (o.bind k) QB) : PostB g H mu τ W o (fun b H' => ∃ mu' M', Le H mu H' mu' ∧ StoOk g H' mu' mu' M' ∧ PostB g H' mu' τ W (k b M') QB) := by
  cases o with
  | ok d M => exact fun H2 mu2 l2 p => ⟨mu2, M, l2, p, PostB.shift l2 h⟩
  | er c n M => exact h
  | no => exact h.elim
theorem PostB.bind {o : Out Bool} {k : Bool → Sto → Out D} (h : PostO g H mu τ W (o.bind k) Q) : PostB g H mu τ W o (fun b H' => ∃ mu' M', Le H mu H' mu' ∧ StoOk g H' mu' mu' M' ∧ PostO g H' mu' τ W (k b M') Q) := by
  cases o with
  | ok d M => exact fun H2 mu2 l2 p => ⟨mu2, M, l2, p, PostO.shift l2 h⟩
  | er c n M => exact h
  | no => exact h.elim
/-- an operand that stays what it is through what comes behind -/
theorem Post.now {H₀ : Hp} {M : Sto} {d : D} {v : V} (st : StoOk g H mu mu M) (r : RepD g H mu d v) : Post g H₀ H mu M d v := by
  cases d with
  | nw ps => exact r.elim
  | p _ => exact ⟨st, r⟩
  | loc _ => exact ⟨st, r⟩
theorem tru_of {K : PySem.W.Frag} {ex : List Addr} {p : P} {v : V} {b : Bool} (h : RdP g H ex p v) (k : p.tru = some b) : TruV K v H b := by
  cases p with
  | non => rw [rd_non h]; cases k; rfl
  | bl _ => rw [rd_bl h]; cases k; rfl
  | int i =>
    rw [rd_int h]; cases k
    show _ = (i != 0)
    simp [bne, BEq.beq]
  | str s =>
    rw [rd_str h]
    have k : (if s.length ≤ lim then some (decide (s.length ≠ 0)) else none) = some b := k
    split at k
    · rename_i hl
      cases k
      refine ⟨lim_le hl, ?_⟩
      by_cases z : s.length = 0
      · simp [z]
      · have z2 : (s.length : Int) ≠ 0 := by omega
        simp [z, z2]
    · cases k
  | tup ps =>
    obtain ⟨a, vs, rfl, _, h1, h2⟩ := rd_tup h
    cases k
    refine .inr (.inl ⟨vs, .of h1, ?_⟩)
    have := h2.length
    cases ps <;> cases vs <;> simp at this ⊢
  | lst ps =>
    obtain ⟨a, vs, rfl, h1, h2⟩ := rd_lst h
    cases k
    refine .inl ⟨vs, .of h1, ?_⟩
    have := h2.length
    cases ps <;> cases vs <;> simp at this ⊢
  | fn _ => cases k
  | scr _ => cases k
  | adr _ => cases k
theorem tB_of {f : EvD} {τ : L2.St} {H : Hp} (h : tTr g W (bOf f) τ H QB) : tE g W f τ H fun x H' => ∃ k, x = .bl k ∧ QB k H' := by
  obtain ⟨σ, M, mu, s, st, h⟩ := h
  refine ⟨σ, M, mu, s, st, (PostO.bindB h).mono fun v H1 ⟨mu1, d, M1, l1, st1, r1, h1⟩ => ?_⟩
  try dsimp only at h1
  split at h1
  · rename_i bb
    have e : v = .bl bb := by have r1 : Rep _ _ _ _ _ := r1; unfold Rep at r1; exact r1
    exact ⟨bb, e, h1 H1 mu1 (Le.refl _ _) st1⟩
  · exact h1.elim
theorem tTru_of {K : PySem.W.Frag} {f : EvD} {τ : L2.St} {H : Hp} (h : tTr g W (bTru f) τ H QB) : tE g W f τ H fun x H' => ∃ k, TruV K x H' k ∧ QB k H' := by
  obtain ⟨σ, M, mu, s, st, h⟩ := h
  refine ⟨σ, M, mu, s, st, (PostO.bindB h).mono fun v H1 ⟨mu1, d, M1, l1, st1, r1, h1⟩ => ?_⟩
  try dsimp only at h1
  split at h1
  · rename_i p hp
    split at h1
    · rename_i b hb
      exact ⟨b, tru_of (r1.get st1 (by rw [get_val]; exact hp)) hb, h1 H1 mu1 (Le.refl _ _) st1⟩
    · exact h1.elim
  · exact h1.elim
end
section
variable {X : Cx} {a b c : Expr} {f fa fb : EvD} {k k2 : EvB} {o : P → P → Option D} {pos : Pos} {rest : List Expr}
theorem ptv_cmp {op : CmpOp} (ho : Op2 X (compareOp op) o) (ha : PEv X a fa) (hb : PEv X b fb) (hm : behindInMarks op b = false) : PTv X (.Compare a [op] [b] pos) (bOf (eBin o fa fb)) := fun W tk =>
  PT.imp (pt_cmpR ho (ha W tk) (hb W tk) hm) fun τ H Q h => tE_two (tB_of h)
theorem ptv_tru (ha : PEv X a f) (he : ∀ whole, isTrue a X.env whole = (do let v ← whole; standAt a.pos; holding [v] (truthy v))) : PTv X a (bTru f) := fun W tk =>
  PT.imp (pt_truth (ha W tk) he) fun τ H Q h => tTru_of h
theorem ptv_not (ha : PTv X a k) : PTv X (.UnaryOp .Not a pos) (bNot k) := fun W tk => PT.imp (pt_not (ha W tk)) fun τ H Q ⟨σ, M, mu, s, st, h⟩ =>
  ⟨σ, M, mu, s, st, (PostB.bindB h).mono fun b H1 ⟨mu1, M1, l1, st1, h1⟩ => h1 H1 mu1 (Le.refl _ _) st1⟩
theorem pwv_and1 (ha : PTv X a k) : PWv X (.BoolOp .And [a] pos) k := fun W tk => pw_and1 (ha W tk)
theorem pwv_or1 (ha : PTv X a k) : PWv X (.BoolOp .Or [a] pos) k := fun W tk => pw_or1 (ha W tk)
theorem pwv_and (ha : PTv X a k) (hb : PWv X (.BoolOp .And (b :: rest) pos) k2) : PWv X (.BoolOp .And (a :: b :: rest) pos) (bAnd k k2) := fun W tk =>
  PW.imp (pw_and (ha W tk) (hb W tk)) fun τ H Q ⟨σ, M, mu, s, st, h⟩ => by
    refine ⟨σ, M, mu, s, st, (PostB.bindB h).mono fun b H1 ⟨mu1, M1, l1, st1, h1⟩ => ?_⟩
    cases b with
    | true => exact ⟨σ, M1, mu1, s.mono l1, st1, h1⟩
    | false => exact h1 H1 mu1 (Le.refl _ _) st1
theorem pwv_or (ha : PTv X a k) (hb : PWv X (.BoolOp .Or (b :: rest) pos) k2) : PWv X (.BoolOp .Or (a :: b :: rest) pos) (bOr k k2) := fun W tk =>
  PW.imp (pw_or (ha W tk) (hb W tk)) fun τ H Q ⟨σ, M, mu, s, st, h⟩ => by
    refine ⟨σ, M, mu, s, st, (PostB.bindB h).mono fun b H1 ⟨mu1, M1, l1, st1, h1⟩ => ?_⟩
    cases b with
    | true => exact h1 H1 mu1 (Le.refl _ _) st1
    | false => exact ⟨σ, M1, mu1, s.mono l1, st1, h1⟩
theorem ptv_of_w (h : PWv X a k) : PTv X a k := fun W tk => (h W tk).pt
/-! as values -/
def eAnd (fa fb : EvD) : EvD := fun σ M => (fa σ M).bind fun d M1 => match d.get M1 with
  | some p => (match p.tru with
    | some true => fb σ M1
    | some false => .ok d.val M1
    | none => .no)
  | none => .no
def eOr (fa fb : EvD) : EvD := fun σ M => (fa σ M).bind fun d M1 => match d.get M1 with
  | some p => (match p.tru with
    | some true => .ok d.val M1
    | some false => fb σ M1
    | none => .no)
  | none => .no
def eNot (fa : EvD) : EvD := fun σ M => (bTru fa σ M).bind fun b M1 => .ok (.p (.bl (!b))) M1
def eIf (c : EvB) (fa fb : EvD) : EvD := fun σ M => (c σ M).bind fun b M1 => if b = true then fa σ M1 else fb σ M1
theorem pv_one {op : BoolOp} (h : PEv X a f) : PEv X (.BoolOp op [a] pos) f := fun W tk => pe_one (h W tk)
theorem pv_and (ha : PEv X a fa) (hb : PEv X (.BoolOp .And (b :: rest) pos) fb) : PEv X (.BoolOp .And (a :: b :: rest) pos) (eAnd fa fb) := fun W tk =>
  PE.imp (pe_andT (ha W tk) (hb W tk)) fun τ H Q ⟨σ, M, mu, s, st, h⟩ => by
    refine ⟨σ, M, mu, s, st, (PostO.bind h).mono fun v H1 ⟨mu1, d, M1, l1, st1, r1, h1⟩ => ?_⟩
    try dsimp only at h1
    split at h1
    · rename_i p hp
      have hr := r1.get st1 (by rw [get_val]; exact hp)
      split at h1
      · rename_i hb; exact ⟨true, tru_of hr hb, iteT ⟨σ, M1, mu1, s.mono l1, st1, h1⟩⟩
      · rename_i hb; exact ⟨false, tru_of hr hb, iteF (h1 v H1 mu1 (Le.refl _ _) (Post.now st1 r1))⟩
      · exact h1.elim
    · exact h1.elim
theorem pv_or (ha : PEv X a fa) (hb : PEv X (.BoolOp .Or (b :: rest) pos) fb) : PEv X (.BoolOp .Or (a :: b :: rest) pos) (eOr fa fb) := fun W tk =>
  PE.imp (pe_orT (ha W tk) (hb W tk)) fun τ H Q ⟨σ, M, mu, s, st, h⟩ => by
    refine ⟨σ, M, mu, s, st, (PostO.bind h).mono fun v H1 ⟨mu1, d, M1, l1, st1, r1, h1⟩ => ?_⟩
    try dsimp only at h1
    split at h1
    · rename_i p hp
      have hr := r1.get st1 (by rw [get_val]; exact hp)
      split at h1
      · rename_i hb; exact ⟨true, tru_of hr hb, iteT (h1 v H1 mu1 (Le.refl _ _) (Post.now st1 r1))⟩
      · rename_i hb; exact ⟨false, tru_of hr hb, iteF ⟨σ, M1, mu1, s.mono l1, st1, h1⟩⟩
      · exact h1.elim
    · exact h1.elim
theorem pv_not (ha : PEv X a f) : PEv X (.UnaryOp .Not a pos) (eNot f) := fun W tk => PE.imp (pe_notT (ha W tk)) fun τ H Q ⟨σ, M, mu, s, st, h⟩ =>
  tTru_of ⟨σ, M, mu, s, st, (PostB.bind h).mono fun b H1 ⟨mu1, M1, l1, st1, h1⟩ => h1 _ H1 mu1 (Le.refl _ _) (post_bl st1)⟩
theorem pv_ifExp (hc : PTv X c k) (ha : PEv X a fa) (hb : PEv X b fb) : PEv X (.IfExp c a b pos) (eIf k fa fb) := fun W tk =>
  PE.imp (pe_ifExp (hc W tk) (ha W tk) (hb W tk)) fun τ H Q ⟨σ, M, mu, s, st, h⟩ => by
    refine ⟨σ, M, mu, s, st, (PostB.bind h).mono fun b H1 ⟨mu1, M1, l1, st1, h1⟩ => ?_⟩
    cases b with
    | true => exact iteT ⟨σ, M1, mu1, s.mono l1, st1, h1⟩
    | false => exact iteF ⟨σ, M1, mu1, s.mono l1, st1, h1⟩
/-- a op b op' c -/
def eChain (o o' : P → P → Option D) (fa fb fc : EvD) : EvD := fun σ M => (fa σ M).bind fun d1 M1 => (fb σ M1).bind fun d2 M2 => (op2 o d1 d2 M2).bind fun d M3 => match d with
  | .p (.bl true) => (fc σ M3).bind fun d3 M4 => op2 o' d2.val d3 M4
  | .p (.bl false) => .ok (.p (.bl false)) M3
  | _ => .no
theorem op2_inv {g : Mg} {H : Hp} {mu : List Addr} {τ : L2.St} {W : WX} {Q : VK} {o : P → P → Option D} {d1 d2 : D} {M : Sto} (h : PostO g H mu τ W (op2 o d1 d2 M) Q) : ∃ p q d, d1.get M = some p ∧ d2.get M = some q ∧ o p q = some d ∧ op2 o d1 d2 M = .ok d M := by
  unfold op2 at h ⊢
  split at h
  · rename_i p q e1 e2
    split at h
    · rename_i d e3
      exact ⟨p, q, d, e1, e2, e3, rfl⟩
    · exact h.elim
  · exact h.elim
theorem chain_of {g : Mg} {W : WX} {τ : L2.St} {H : Hp} {Q : VK} {o o' : P → P → Option D} {fa fb fc : EvD} {r r' : R2}
    (i : ∀ x y H Q, (∃ mu M p q d, StoOk g H mu mu M ∧ RdP g H mu p x ∧ RdP g H mu q y ∧ o p q = some d ∧ ∀ v H', Le H mu H' mu → Post g H H' mu M d v → Q v H') → r x y H Q)
    (i' : ∀ x y H Q, (∃ mu M p q d, StoOk g H mu mu M ∧ RdP g H mu p x ∧ RdP g H mu q y ∧ o' p q = some d ∧ ∀ v H', Le H mu H' mu → Post g H H' mu M d v → Q v H') → r' x y H Q)
    (h : tE g W (eChain o o' fa fb fc) τ H Q) : tChain r r' (tE g W fa) (tE g W fb) (tE g W fc) τ H Q := by
  obtain ⟨σ, M, mu, s, st, h⟩ := h
  refine ⟨σ, M, mu, s, st, (PostO.bind h).mono fun x H1 ⟨mu1, d1, M1, l1, st1, r1, h1⟩ => ?_⟩
  refine ⟨σ, M1, mu1, s.mono l1, st1, (PostO.bind h1).mono fun y H2 ⟨mu2, d2, M2, l2, st2, r2, h2⟩ => ?_⟩
  try dsimp only at h2
  obtain ⟨p, q, d, e1, e2, e3, e4⟩ := op2_inv (PostO.bind h2)
  rw [e4] at h2
  have g1 := (r1.mono l2).get st2 (by rw [get_val]; exact e1)
  have g2 := r2.get st2 (by rw [get_val]; exact e2)
  refine i x y H2 _ ⟨mu2, M2, p, q, d, st2, g1, g2, e3, fun v H3 l3 p3 => ?_⟩
  have p3v := p3.val
  dsimp only [Out.bind] at h2
  split at h2
  · have ev : v = .bl true := by have z : Rep _ _ _ _ _ := p3v.2; unfold Rep at z; exact z
    refine ⟨true, ev, iteT ?_⟩
    have h2 := PostO.shift l3 h2
    refine ⟨σ, M2, mu2, s.mono (l1.trans (l2.trans l3)), p3v.1, (PostO.bind h2).mono fun w H4 ⟨mu4, d3, M4, l4, st4, r4, h4⟩ => ?_⟩
    try dsimp only at h4
    obtain ⟨p', q', d', f1, f2, f3, f4⟩ := op2_inv h4
    rw [f4] at h4
    refine i' y w H4 _ ⟨mu4, M4, p', q', d', st4, (r2.mono (l3.trans l4)).get st4 f1, r4.get st4 (by rw [get_val]; exact f2), f3, fun v' H5 l5 p5 => ?_⟩
    exact h4 v' H5 mu4 l5 p5
  · have ev : v = .bl false := by have z : Rep _ _ _ _ _ := p3v.2; unfold Rep at z; exact z
    exact ⟨false, ev, iteF (h2 _ H3 mu2 l3 (post_bl p3v.1))⟩
  · exact h2.elim
theorem pv_chain {op op' : CmpOp} {o' : P → P → Option D} {fc : EvD} (ho : Op2 X (compareOp op) o) (ho' : Op2 X (compareOp op') o') (ha : PEv X a fa) (hb : PEv X b fb) (hc : PEv X c fc) (hm : lastMarks [op, op'] [b, c] = false) :
    PEv X (.Compare a [op, op'] [b, c] pos) (eChain o o' fa fb fc) := fun W tk =>
  PE.imp (pe_chain ho ho' (ha W tk) (hb W tk) (hc W tk) hm) fun τ H Q h => chain_of (fun _ _ _ _ z => z) (fun _ _ _ _ z => z) h
theorem ptv_chain {op op' : CmpOp} {o' : P → P → Option D} {fc : EvD} (ho : Op2 X (compareOp op) o) (ho' : Op2 X (compareOp op') o') (ha : PEv X a fa) (hb : PEv X b fb) (hc : PEv X c fc) (hm : lastMarks [op, op'] [b, c] = false) :
    PTv X (.Compare a [op, op'] [b, c] pos) (bOf (eChain o o' fa fb fc)) := fun W tk =>
  PT.imp (pt_chain ho ho' (ha W tk) (hb W tk) (hc W tk) hm) fun τ H Q h => chain_of (fun _ _ _ _ z => z) (fun _ _ _ _ z => z) (tB_of h)

/-! ### unary -/
def eNeg (fa : EvD) : EvD := fun σ M => (fa σ M).bind fun d M1 => match d with
  | .p (.int i) => .ok (.p (.int (-i))) M1
  | .p (.bl b) => .ok (.p (.int (-(b2i b)))) M1
  | _ => .no
theorem un_neg2 : UnR X (unaryOp .USub) (fun x H Q => (∃ i, x = .int i ∧ Q (.int (-i)) H) ∨ ∃ k, x = .bl k ∧ Q (.int (-(b2i k))) H) := fun pins s σ H x v Q I rx h => h.elim (fun h => un_neg pins s σ H x v Q I rx h) fun h => un_negb pins s σ H x v Q I rx h
theorem rep_bl_inv {g : Mg} {H : Hp} {mu : List Addr} {i : Bool} {v : V} (r : RepD g H mu (D.val (.p (.bl i))) v) : v = .bl i := by
  have z : Rep _ _ _ _ _ := r
  unfold Rep at z; exact z
theorem rep_int_inv {g : Mg} {H : Hp} {mu : List Addr} {i : Int} {v : V} (r : RepD g H mu (D.val (.p (.int i))) v) : v = .int i := by
  have z : Rep _ _ _ _ _ := r
  unfold Rep at z; exact z
theorem pv_neg (ha : PEv X a fa) : PEv X (.UnaryOp .USub a pos) (eNeg fa) := fun W tk => PE.imp (pe_un un_neg2 (ha W tk)) fun τ H Q ⟨σ, M, mu, s, st, h⟩ => by
  refine ⟨σ, M, mu, s, st, (PostO.bind h).mono fun v H1 ⟨mu1, d, M1, l1, st1, r1, h1⟩ => ?_⟩
  try dsimp only at h1
  split at h1
  · exact .inl ⟨_, rep_int_inv r1, h1 _ H1 mu1 (Le.refl _ _) (post_int st1)⟩
  · exact .inr ⟨_, rep_bl_inv r1, h1 _ H1 mu1 (Le.refl _ _) (post_int st1)⟩
  · exact h1.elim
/-- t[::-1] -/
def eRevT (fa : EvD) : EvD := fun σ M => (fa σ M).bind fun d M1 => match d with
  | .p (.tup ps) => .ok (.p (.tup ps.reverse)) M1
  | _ => .no
theorem RepL.reverse {g : Mg} {H : Hp} {e : List Addr} : ∀ {ps : List P} {vs : List V}, RepL g H e ps vs → RepL g H e ps.reverse vs.reverse
  | [], vs, h => by rw [h.nil_inv]; exact RepL.nil
  | p :: ps, vs, h => by
    obtain ⟨v, r, rfl, h1, h2⟩ := h.cons_inv
    rw [List.reverse_cons, List.reverse_cons]
    exact h2.reverse.append (RepL.cons h1 RepL.nil)
theorem pv_revT {k : Nat} {p1 p2 p3 : Pos} (ha : PEv X a fa) : PEv X (.Subscript a (.Slice none none (some (.UnaryOp .USub (.Constant (.int 1) k p1) p2)) p3) pos) (eRevT fa) := fun W tk => PE.imp (pe_revT (ha W tk)) fun τ H Q ⟨σ, M, mu, s, st, h⟩ => by
  refine ⟨σ, M, mu, s, st, (PostO.bind h).mono fun v H1 ⟨mu1, d, M1, l1, st1, r1, h1⟩ => ?_⟩
  try dsimp only at h1
  split at h1
  · have z : Rep _ _ _ _ _ := r1
    unfold Rep at z
    obtain ⟨b, vs, rfl, hb, k1, k2⟩ := z
    exact ⟨b, vs, rfl, .of k1, fun p hp => h1 _ _ mu1 (Le.upd hp) (post_tup st1 hp k2.reverse)⟩
  · exact h1.elim

/-! ### displays -/
/-- data of all -/
def allP : List D → Option (List P)
  | [] => some []
  | .p p :: ds => (allP ds).map fun ps => p :: ps
  | _ :: _ => none
theorem allP_rep {g : Mg} {H : Hp} {mu : List Addr} : ∀ {ds : List D} {ps : List P} {vs : List V}, allP ds = some ps → RepDL g H mu ds vs → RepL g H mu ps vs
  | [], _, _, e, h => by cases e; rw [show _ = [] from h]; exact RepL.nil
  | .p p :: ds, _, _, e, ⟨v, r, e1, h1, h2⟩ => by
    unfold allP at e
    cases q : allP ds with
    | none => rw [q] at e; cases e
    | some qs =>
      rw [q] at e
      cases e
      rw [e1]
      exact RepL.cons h1 (allP_rep q h2)
  | .nw _ :: _, _, _, e, _ => by cases e
  | .loc _ :: _, _, _, e, _ => by cases e
def eTup (fs : EvA) : EvD := fun σ M => (fs σ M).bind fun ds M1 => match allP ds with
  | some ps => if ps.length ≤ lim then .ok (.p (.tup ps)) M1 else .no
  | none => .no
def eLst (fs : EvA) : EvD := fun σ M => (fs σ M).bind fun ds M1 => match allP ds with
  | some ps => if ps.length ≤ lim then .ok (.nw ps) M1 else .no
  | none => .no
theorem pv_tup {es : List Expr} {fs : EvA} {k : Nat} (h : PAv X es fs) : PEv X (.Tuple es k pos) (eTup fs) := fun W tk => PE.imp (pe_tup (h W tk)) fun τ H Q ⟨σ, M, mu, s, st, h⟩ => by
  refine ⟨σ, M, mu, s, st, (PostA.bind h).mono fun vs H1 ⟨mu1, ds, M1, l1, st1, r1, h1⟩ => ?_⟩
  try dsimp only at h1
  split at h1
  · rename_i ps hp
    have r := allP_rep hp r1
    split at h1
    · rename_i hl
      exact ⟨by rw [r.length]; exact lim_le hl, fun p hp => h1 _ _ mu1 (Le.upd hp) (post_tup st1 hp r)⟩
    · exact h1.elim
  · exact h1.elim
theorem pv_lst {es : List Expr} {fs : EvA} (h : PAv X es fs) : PEv X (.List es pos) (eLst fs) := fun W tk => PE.imp (pe_lst (h W tk)) fun τ H Q ⟨σ, M, mu, s, st, h⟩ => by
  refine ⟨σ, M, mu, s, st, (PostA.bind h).mono fun vs H1 ⟨mu1, ds, M1, l1, st1, r1, h1⟩ => ?_⟩
  try dsimp only at h1
  split at h1
  · rename_i ps hp
    have r := allP_rep hp r1
    split at h1
    · rename_i hl
      exact ⟨by rw [r.length]; exact lim_le hl, fun p hp => h1 _ _ mu1 (Le.upd hp) (post_nw st1 hp r)⟩
    · exact h1.elim
  · exact h1.elim

/-! ### subscripts -/
def oIx : P → P → Option D
  | .lst ps, .int i => (atI ps i).map .p
  | .tup ps, .int i => (atI ps i).map .p
  | .scr ns, .int i => (atI ns i).map fun n => .p (.int n)
  | .str s, .int i => if s.length ≤ lim then (atI s.cps.toList i).map fun c => .p (.str ⟨#[c]⟩) else none
  | _, _ => none
theorem RepL.atI {g : Mg} {H : Hp} {e : List Addr} {ps : List P} {vs : List V} {i : Int} {p : P} (h : RepL g H e ps vs) (k : L2.atI ps i = some p) : ∃ v, L2.atI vs i = some v ∧ Rep g H e p v := by
  unfold L2.atI at k ⊢
  rw [h.length]
  cases q : ixN ps.length i with
  | none => rw [q] at k; cases k
  | some j =>
    rw [q] at k
    exact h.get (show ps[j]? = some p from k)
theorem scr_inv {g : Mg} {H : Hp} {e : List Addr} {ns : List Int} {v : V} (h : RdP g H e (.scr ns) v) : ∃ a, v = .ref a ∧ SqL g.K H a (ns.map V.int) := by
  have h := rd_rep h fun _ z => nomatch z
  unfold Rep at h
  obtain ⟨a, e, ⟨_, h⟩ | h⟩ := h
  · exact ⟨a, e, .inl h⟩
  · exact ⟨a, e, .inr h⟩
theorem atI_map {α β : Type} (f : α → β) {xs : List α} {i : Int} {x : α} (h : L2.atI xs i = some x) : L2.atI (xs.map f) i = some (f x) := by
  unfold L2.atI at h ⊢
  rw [List.length_map]
  cases q : ixN xs.length i with
  | none => rw [q] at h; cases h
  | some j =>
    rw [q] at h
    show (xs.map f)[j]? = _
    rw [List.getElem?_map, show xs[j]? = some x from h]; rfl
theorem pv_ix (ha : PEv X a fa) (hb : PEv X b fb) (hs : PlainIx b) : PEv X (.Subscript a b pos) (eBin oIx fa fb) := fun W tk => PE.imp (pe_ix ix_seq (ha W tk) (hb W tk) hs) fun τ H Q h => by
  obtain ⟨σ, M, mu, s, st, h⟩ := tE_two h
  refine ⟨σ, M, mu, s, st, h.mono fun x H1 ⟨σ2, M2, mu2, s2, st2, h2⟩ => ⟨σ2, M2, mu2, s2, st2, h2.mono fun y H2 ⟨mu3, M3, p, q, d, st3, rx, ry, e, hq⟩ => ?_⟩⟩
  unfold oIx at e
  split at e
  · rename_i ps i
    obtain ⟨a, vs, rfl, h1, h2⟩ := rd_lst rx
    cases k : L2.atI ps i with
    | none => rw [k] at e; cases e
    | some p =>
      rw [k] at e; cases e
      obtain ⟨v, e1, e2⟩ := h2.atI k
      exact .inl ⟨a, vs, i, v, rfl, rd_int ry, .of h1, e1, hq v H2 (Le.refl _ _) ⟨st3, e2⟩⟩
  · rename_i ps i
    obtain ⟨a, vs, rfl, _, h1, h2⟩ := rd_tup rx
    cases k : L2.atI ps i with
    | none => rw [k] at e; cases e
    | some p =>
      rw [k] at e; cases e
      obtain ⟨v, e1, e2⟩ := h2.atI k
      exact .inr (.inl ⟨a, vs, i, v, rfl, rd_int ry, .of h1, e1, hq v H2 (Le.refl _ _) ⟨st3, e2⟩⟩)
  · rename_i ns i
    obtain ⟨a, rfl, h1⟩ := scr_inv rx
    cases k : L2.atI ns i with
    | none => rw [k] at e; cases e
    | some p =>
      rw [k] at e; cases e
      exact .inl ⟨a, ns.map V.int, i, .int p, rfl, rd_int ry, h1, atI_map V.int k, hq _ H2 (Le.refl _ _) (post_int st3)⟩
  · rename_i z i
    split at e
    · rename_i hl
      cases k : L2.atI z.cps.toList i with
      | none => rw [k] at e; cases e
      | some c =>
        rw [k] at e; cases e
        exact .inr (.inr ⟨z, i, c, rd_str rx, rd_int ry, lim_le hl, k, hq _ H2 (Le.refl _ _) (post_str st3)⟩)
    · cases e
  · cases e

/-! ### slices -/
abbrev EvO := Fr → Sto → Out (Option Int)
def PostOp (g : Mg) (H : Hp) (mu : List Addr) (τ : L2.St) (W : WX) (o : Out (Option Int)) (Q : Option Int → Hp → Prop) : Prop :=
  match o with
  | .ok b M' => ∀ H' mu', Le H mu H' mu' → StoOk g H' mu' mu' M' → Q b H'
  | .er c n M' => ∀ cls dd H' mu', Le H mu H' mu' → StoOk g H' mu' mu' M' → ExcR g c n cls dd H' → W cls dd τ H'
  | .no => False
def tOr (g : Mg) (W : WX) (f : EvO) : TO := fun τ H Q => ∃ σ M mu, SlOk g H mu σ τ ∧ StoOk g H mu mu M ∧ PostOp g H mu τ W (f σ M) Q
def POv (X : Cx) (e : Option Expr) (f : EvO) : Prop := ∀ W, L2N.Takes X W → PO X e (tOr X.g W f)
theorem PO.imp {X : Cx} {e : Option Expr} {t t' : TO} (h : PO X e t) (i : ∀ τ H Q, t' τ H Q → t τ H Q) : PO X e t' := ⟨fun pins s σ H Q I q => h.run pins s σ H Q I (i σ H Q q)⟩
def sNone : EvO := fun _ M => .ok none M
def sSome (f : EvD) : EvO := fun σ M => (f σ M).bind fun d M1 => match d with
  | .p (.int i) => .ok (some i) M1
  | _ => .no
theorem pov_none : POv X none sNone := fun W tk => PO.imp po_none fun τ H Q ⟨σ, M, mu, s, st, h⟩ => h H mu (Le.refl _ _) st
theorem pov_some (ha : PEv X a fa) : POv X (some a) (sSome fa) := fun W tk => PO.imp (po_some (ha W tk)) fun τ H Q ⟨σ, M, mu, s, st, h⟩ => by
  refine ⟨σ, M, mu, s, st, ?_⟩
  unfold sSome at h
  cases hf : fa σ M with
  | ok d M1 =>
    rw [hf] at h
    dsimp only [Out.bind] at h
    intro v H1 mu1 l1 p1
    split at h
    · exact ⟨_, rep_int_inv p1.val.2, h H1 mu1 l1 p1.val.1⟩
    · exact h.elim
  | er c n M1 => rw [hf] at h; exact h
  | no => rw [hf] at h; exact h.elim
/-- a slice of data -/
def cutP (ps : List P) (lo hi : Option Int) : List P := (ps.drop (HT.sIx ps.length 0 lo)).take (HT.sIx ps.length ps.length hi - HT.sIx ps.length 0 lo)
def oSl (lo hi : Option Int) : P → Option D
  | .lst ps => some (.nw (cutP ps lo hi))
  | .tup ps => some (.p (.tup (cutP ps lo hi)))
  | .str s => if s.length ≤ lim then some (.p (.str (cutS s lo hi))) else none
  | _ => none
def eSl (fa : EvD) (fl fh : EvO) : EvD := fun σ M => (fa σ M).bind fun d M1 => (fl σ M1).bind fun l M2 => (fh σ M2).bind fun h M3 => match d.get M3 with
  | some p => (match oSl l h p with
    | some r => .ok r M3
    | none => .no)
  | none => .no
theorem PostOp.bind {g : Mg} {H : Hp} {mu : List Addr} {τ : L2.St} {W : WX} {Q : VK} {o : Out (Option Int)} {k : Option Int → Sto → Out D} (h : PostO g H mu τ W (o.bind k) Q) : PostOp g H mu τ W o (fun b H' => ∃ mu' M', Le H mu H' mu' ∧ StoOk g H' mu' mu' M' ∧ PostO g H' mu' τ W (k b M') Q) := by
  cases o with
  | ok d M => exact fun H2 mu2 l2 p => ⟨mu2, M, l2, p, PostO.shift l2 h⟩
  | er c n M => exact h
  | no => exact h.elim
theorem PostOp.mono {g : Mg} {H : Hp} {mu : List Addr} {τ : L2.St} {W : WX} {QB QB' : Option Int → Hp → Prop} {o : Out (Option Int)} (h : PostOp g H mu τ W o QB) (i : ∀ v H', QB v H' → QB' v H') : PostOp g H mu τ W o QB' := by
  cases o with
  | ok d M => exact fun H2 mu2 l2 p => i _ _ (h H2 mu2 l2 p)
  | er c n M => exact h
  | no => exact h
theorem cut_rep {g : Mg} {H : Hp} {e : List Addr} {ps : List P} {vs : List V} (h : RepL g H e ps vs) (lo hi : Option Int) : RepL g H e (cutP ps lo hi) (cutV vs lo hi) := by
  unfold cutP cutV
  rw [h.length]
  exact (h.drop _).take _
theorem pv_slice {lo hi : Option Expr} {fl fh : EvO} {p2 : Pos} (ha : PEv X a fa) (hl : POv X lo fl) (hh : POv X hi fh) : PEv X (.Subscript a (.Slice lo hi none p2) pos) (eSl fa fl fh) := fun W tk =>
  PE.imp (pe_slice (sl_list.or (sl_tupA.or sl_str)) (ha W tk) (hl W tk) (hh W tk)) fun τ H Q ⟨σ, M, mu, s, st, h⟩ => by
    refine ⟨σ, M, mu, s, st, (PostO.bind h).mono fun x H1 ⟨mu1, d, M1, l1, st1, r1, h1⟩ => ?_⟩
    refine ⟨σ, M1, mu1, s.mono l1, st1, (PostOp.bind h1).mono fun l H2 ⟨mu2, M2, l2, st2, h2⟩ => ?_⟩
    refine ⟨σ, M2, mu2, s.mono (l1.trans l2), st2, (PostOp.bind h2).mono fun u H3 ⟨mu3, M3, l3, st3, h3⟩ => ?_⟩
    try dsimp only at h3
    split at h3
    · rename_i p hp
      have rd := (r1.mono (l2.trans l3)).get st3 (by rw [get_val]; exact hp)
      split at h3
      · rename_i r hr
        unfold oSl at hr
        split at hr
        · cases hr
          obtain ⟨a, vs, rfl, k1, k2⟩ := rd_lst rd
          exact .inl ⟨a, vs, rfl, .of k1, fun q hq => h3 _ _ mu3 (Le.upd hq) (post_nw st3 hq (cut_rep k2 l u))⟩
        · cases hr
          obtain ⟨a, vs, rfl, ka, k1, k2⟩ := rd_tup rd
          refine .inr (.inl ⟨a, vs, rfl, .of k1, fun hw => ?_, fun _ q hq => h3 _ _ mu3 (Le.upd hq) (post_tup st3 hq (cut_rep k2 l u))⟩)
          refine h3 _ H3 mu3 (Le.refl _ _) ⟨st3, ?_⟩
          rename_i _ ps _
          show Rep _ _ _ (.tup (cutP ps l u)) _
          have hl := k2.length
          have e : cutP ps l u = ps := by
            unfold cutP
            rw [← hl, hw.1, hw.2, List.drop_zero, Nat.sub_zero, hl, List.take_length]
          rw [e]
          unfold Rep
          exact ⟨a, vs, rfl, ka, k1, k2⟩
        · split at hr
          · rename_i hl
            cases hr
            exact .inr (.inr ⟨_, rd_str rd, lim_le hl, h3 _ H3 mu3 (Le.refl _ _) (post_str st3)⟩)
          · cases hr
        · cases hr
      · exact h3.elim
    · exact h3.elim
end
end Ev

set_option Elab.async false
set_option linter.all false
set_option maxRecDepth 100000
set_option maxHeartbeats 4000000
/-! Core5: calls of built-ins, of built-ins' methods, of the text's own defs. -/
namespace Ev
open PySem PySem.Spec PyProof.Rows L2

/-- data to be read -/
def getL (M : Sto) : List D → Option (List P)
  | [] => some []
  | d :: ds => match d.get M, getL M ds with
    | some p, some ps => some (p :: ps)
    | _, _ => none
def RdL (g : Mg) (H : Hp) (ex : List Addr) : List P → List V → Prop
  | [], vs => vs = []
  | p :: ps, vs => ∃ v r, vs = v :: r ∧ RdP g H ex p v ∧ RdL g H ex ps r
theorem getL_rd {g : Mg} {H : Hp} {mu : List Addr} {M : Sto} (st : StoOk g H mu mu M) : ∀ {ds : List D} {ps : List P} {vs : List V}, getL M ds = some ps → RepDL g H mu ds vs → RdL g H mu ps vs
  | [], _, _, e, h => by cases e; exact h
  | d :: ds, _, _, e, ⟨v, r, e1, h1, h2⟩ => by
    unfold getL at e
    split at e
    · rename_i p ps k1 k2
      cases e
      exact ⟨v, r, e1, h1.get st k1, getL_rd st k2 h2⟩
    · cases e
/-- a call by values, told of data -/
def CallO (X : Cx) (f : Value) (o : List P → Option D) : Prop :=
  CallR X f fun xs H Q => ∃ mu M ps d, StoOk X.g H mu mu M ∧ RdL X.g H mu ps xs ∧ o ps = some d ∧ ∀ v H', Le H mu H' mu → Post X.g H H' mu M d v → Q v H'
theorem CallR.imp {X : Cx} {f : Value} {r r' : List V → Hp → VK → Prop} (h : CallR X f r) (i : ∀ x H Q, r' x H Q → r x H Q) : CallR X f r' := fun pins s σ H x u Q I rx q => h pins s σ H x u Q I rx (i x H Q q)
def eCB (o : List P → Option D) (fs : EvA) : EvD := fun σ M => (fs σ M).bind fun ds M1 => match getL M1 ds with
  | some ps => (match o ps with
    | some d => .ok d M1
    | none => .no)
  | none => .no
theorem tCB_of {g : Mg} {W : WX} {τ : L2.St} {H : Hp} {Q : VK} {o : List P → Option D} {fs : EvA} (h : tE g W (eCB o fs) τ H Q) :
    tAr g W fs τ H fun vs H1 => ∃ mu M ps d, StoOk g H1 mu mu M ∧ RdL g H1 mu ps vs ∧ o ps = some d ∧ ∀ v H', Le H1 mu H' mu → Post g H1 H' mu M d v → Q v H' := by
  obtain ⟨σ, M, mu, s, st, h⟩ := h
  refine ⟨σ, M, mu, s, st, (PostA.bind h).mono fun vs H1 ⟨mu1, ds, M1, l1, st1, r1, h1⟩ => ?_⟩
  split at h1
  · rename_i ps hp
    split at h1
    · rename_i d hd
      exact ⟨mu1, M1, ps, d, st1, getL_rd st1 hp r1, hd, fun v H2 l2 p2 => h1 v H2 mu1 l2 p2⟩
    · exact h1.elim
  · exact h1.elim
section
variable {X : Cx} {x : Str} {e : Expr} {es : List Expr} {fs : EvA} {o : List P → Option D} {p pos : Pos}
theorem pv_callB {id : String} (hc : CallO X (.builtin id) o) (hg : Gl X x) (hm : X.mg x = none) (hv : bootBuiltins x = some (.builtin id)) (ha : PAv X (e :: es) fs) (hn : x ≠ "__name__") (hdb : (x == ("__debug__" : Str)) = false)
    (he : starEach (e :: es) X.env = (false, eval e X.env) :: starEach es X.env) (hpl : (backTo pos (starEach es X.env)).any (·.1) = false) : PEv X (.Call (.Name x p) (e :: es) [] pos) (eCB o fs) := fun W tk =>
  PE.imp (pe_callB hc hg hm hv (ha W tk) hn hdb he hpl) fun τ H Q h => tCB_of h
theorem pv_callTy {T : String} (hc : CallO X (.type T) o) (hg : Gl X x) (hm : X.mg x = none) (hv : bootBuiltins x = some (.type T)) (ha : PAv X (e :: es) fs) (hn : x ≠ "__name__") (hdb : (x == ("__debug__" : Str)) = false)
    (he : starEach (e :: es) X.env = (false, eval e X.env) :: starEach es X.env) (hpl : (backTo pos (starEach es X.env)).any (·.1) = false) : PEv X (.Call (.Name x p) (e :: es) [] pos) (eCB o fs) := fun W tk =>
  PE.imp (pe_callTy hc hg hm hv (ha W tk) hn hdb he hpl) fun τ H Q h => tCB_of h
end

/-! ### what the built-ins give -/
def cLen : List P → Option D
  | [.str s] => if s.length ≤ lim then some (.p (.int s.length)) else none
  | [.lst ps] => some (.p (.int ps.length))
  | [.tup ps] => some (.p (.int ps.length))
  | [.scr ns] => some (.p (.int ns.length))
  | _ => none
def cAbs : List P → Option D
  | [.int i] => some (.p (.int (if i < 0 then -i else i)))
  | _ => none
def cInt : List P → Option D
  | [.int i] => some (.p (.int i))
  | [.bl b] => some (.p (.int (if b then 1 else 0)))
  | [.str s] => if s.length ≤ 640 then (PySem.intText? s).map fun n => .p (.int n) else none
  | _ => none
def cStr : List P → Option D
  | [.int i] => if i.natAbs < 2 ^ 1000 then some (.p (.str (toString i))) else none
  | [.bl b] => some (.p (.str (if b = true then "True" else "False")))
  | _ => none
def intsOf : List P → Option (List Int)
  | [] => some []
  | .int i :: ps => (intsOf ps).map fun r => i :: r
  | _ :: _ => none
def blsOf : List P → Option (List Bool)
  | [] => some []
  | .bl i :: ps => (blsOf ps).map fun r => i :: r
  | _ :: _ => none
def strsOf : List P → Option (List Str)
  | [] => some []
  | .str i :: ps => (strsOf ps).map fun r => i :: r
  | _ :: _ => none
def maxL : List Int → Int
  | [] => 0
  | [x] => x
  | x :: r => max x (maxL r)
def minL : List Int → Int
  | [] => 0
  | [x] => x
  | x :: r => min x (minL r)
def cMax : List P → Option D
  | [.int i, .int j] => some (.p (.int (if j > i then j else i)))
  | [.lst ps] => match intsOf ps with
    | some ns => if ns = [] then none else some (.p (.int (maxL ns)))
    | none => none
  | _ => none
def cMin : List P → Option D
  | [.int i, .int j] => some (.p (.int (if j < i then j else i)))
  | [.lst ps] => match intsOf ps with
    | some ns => if ns = [] then none else some (.p (.int (minL ns)))
    | none => none
  | _ => none
def cSum : List P → Option D
  | [.lst ps] => (intsOf ps).map fun ns => .p (.int ns.sum)
  | _ => none
def cAll : List P → Option D
  | [.lst ps] => (blsOf ps).map fun bs => .p (.bl (bs.all id))
  | _ => none
def cTuple : List P → Option D
  | [.lst ps] => some (.p (.tup ps))
  | [.tup ps] => some (.p (.tup ps))
  | _ => none
def cList : List P → Option D
  | [.lst ps] => some (.nw ps)
  | [.tup ps] => some (.nw ps)
  | _ => none
section
variable {g : Mg} {H : Hp} {e : List Addr}
theorem ints_rep : ∀ {ps : List P} {ns : List Int} {vs : List V}, intsOf ps = some ns → RepL g H e ps vs → vs = ns.map V.int
  | [], _, _, k, h => by cases k; exact h.nil_inv
  | .int i :: ps, _, _, k, h => by
    obtain ⟨v, r, rfl, h1, h2⟩ := h.cons_inv
    unfold intsOf at k
    cases q : intsOf ps with
    | none => rw [q] at k; cases k
    | some m =>
      rw [q] at k; cases k
      unfold Rep at h1
      rw [h1, ints_rep q h2]; rfl
  | .non :: _, _, _, k, _ => by cases k
  | .bl _ :: _, _, _, k, _ => by cases k
  | .str _ :: _, _, _, k, _ => by cases k
  | .tup _ :: _, _, _, k, _ => by cases k
  | .lst _ :: _, _, _, k, _ => by cases k
  | .fn _ :: _, _, _, k, _ => by cases k
  | .scr _ :: _, _, _, k, _ => by cases k
  | .adr _ :: _, _, _, k, _ => by cases k
theorem bls_rep : ∀ {ps : List P} {ns : List Bool} {vs : List V}, blsOf ps = some ns → RepL g H e ps vs → vs = ns.map V.bl
  | [], _, _, k, h => by cases k; exact h.nil_inv
  | .bl i :: ps, _, _, k, h => by
    obtain ⟨v, r, rfl, h1, h2⟩ := h.cons_inv
    unfold blsOf at k
    cases q : blsOf ps with
    | none => rw [q] at k; cases k
    | some m =>
      rw [q] at k; cases k
      unfold Rep at h1
      rw [h1, bls_rep q h2]; rfl
  | .non :: _, _, _, k, _ => by cases k
  | .int _ :: _, _, _, k, _ => by cases k
  | .str _ :: _, _, _, k, _ => by cases k
  | .tup _ :: _, _, _, k, _ => by cases k
  | .lst _ :: _, _, _, k, _ => by cases k
  | .fn _ :: _, _, _, k, _ => by cases k
  | .scr _ :: _, _, _, k, _ => by cases k
  | .adr _ :: _, _, _, k, _ => by cases k
theorem strs_rep : ∀ {ps : List P} {ns : List Str} {vs : List V}, strsOf ps = some ns → RepL g H e ps vs → vs = ns.map V.str
  | [], _, _, k, h => by cases k; exact h.nil_inv
  | .str i :: ps, _, _, k, h => by
    obtain ⟨v, r, rfl, h1, h2⟩ := h.cons_inv
    unfold strsOf at k
    cases q : strsOf ps with
    | none => rw [q] at k; cases k
    | some m =>
      rw [q] at k; cases k
      unfold Rep at h1
      rw [h1, strs_rep q h2]; rfl
  | .non :: _, _, _, k, _ => by cases k
  | .int _ :: _, _, _, k, _ => by cases k
  | .bl _ :: _, _, _, k, _ => by cases k
  | .tup _ :: _, _, _, k, _ => by cases k
  | .lst _ :: _, _, _, k, _ => by cases k
  | .fn _ :: _, _, _, k, _ => by cases k
  | .scr _ :: _, _, _, k, _ => by cases k
  | .adr _ :: _, _, _, k, _ => by cases k
theorem rdl1 {p : P} {xs : List V} (h : RdL g H e [p] xs) : ∃ v, xs = [v] ∧ RdP g H e p v := by
  obtain ⟨v, r, rfl, h1, h2⟩ := h
  have h2 : r = [] := h2
  exact ⟨v, by rw [h2], h1⟩
theorem rdl2 {p q : P} {xs : List V} (h : RdL g H e [p, q] xs) : ∃ v w, xs = [v, w] ∧ RdP g H e p v ∧ RdP g H e q w := by
  obtain ⟨v, r, rfl, h1, h2⟩ := h
  obtain ⟨w, rfl, h3⟩ := rdl1 h2
  exact ⟨v, w, rfl, h1, h3⟩
theorem maxL_mem : ∀ {ns : List Int}, ns ≠ [] → maxL ns ∈ ns ∧ ∀ y ∈ ns, y ≤ maxL ns
  | [], h => absurd rfl h
  | [x], _ => ⟨by simp [maxL], fun y hy => by rw [List.mem_singleton.mp hy]; exact Int.le_refl _⟩
  | x :: y :: r, _ => by
    obtain ⟨h1, h2⟩ := maxL_mem (ns := y :: r) (by simp)
    have e1 : maxL (x :: y :: r) = max x (maxL (y :: r)) := rfl
    rw [e1]
    refine ⟨?_, fun z hz => ?_⟩
    · by_cases q : x ≤ maxL (y :: r)
      · rw [Int.max_eq_right q]; exact List.mem_cons_of_mem _ h1
      · rw [Int.max_eq_left (by omega)]; exact List.mem_cons_self
    · rcases List.mem_cons.mp hz with rfl | hz
      · exact Int.le_max_left _ _
      · exact Int.le_trans (h2 z hz) (Int.le_max_right _ _)
theorem minL_mem : ∀ {ns : List Int}, ns ≠ [] → minL ns ∈ ns ∧ ∀ y ∈ ns, minL ns ≤ y
  | [], h => absurd rfl h
  | [x], _ => ⟨by simp [minL], fun y hy => by rw [List.mem_singleton.mp hy]; exact Int.le_refl _⟩
  | x :: y :: r, _ => by
    obtain ⟨h1, h2⟩ := minL_mem (ns := y :: r) (by simp)
    have e1 : minL (x :: y :: r) = min x (minL (y :: r)) := rfl
    rw [e1]
    refine ⟨?_, fun z hz => ?_⟩
    · by_cases q : x ≤ minL (y :: r)
      · rw [Int.min_eq_left q]; exact List.mem_cons_self
      · rw [Int.min_eq_right (by omega)]; exact List.mem_cons_of_mem _ h1
    · rcases List.mem_cons.mp hz with rfl | hz
      · exact Int.min_le_left _ _
      · exact Int.le_trans (Int.min_le_right _ _) (h2 z hz)
end
section
variable {X : Cx}
theorem c_len : CallO X (.builtin "len") cLen := CallR.imp call_len fun xs H Q ⟨mu, M, ps, d, st, r, e, hq⟩ => by
  unfold cLen at e
  split at e
  · split at e
    · rename_i hl
      cases e
      obtain ⟨v, rfl, h⟩ := rdl1 r
      exact ⟨v, _, rfl, by rw [rd_str h]; exact ⟨lim_le hl, rfl⟩, hq _ H (Le.refl _ _) (post_int st)⟩
    · cases e
  · cases e
    obtain ⟨v, rfl, h⟩ := rdl1 r
    obtain ⟨a, vs, rfl, h1, h2⟩ := rd_lst h
    exact ⟨_, _, rfl, .inl ⟨vs, .of h1, h2.length.symm⟩, hq _ H (Le.refl _ _) (post_int st)⟩
  · cases e
    obtain ⟨v, rfl, h⟩ := rdl1 r
    obtain ⟨a, vs, rfl, _, h1, h2⟩ := rd_tup h
    exact ⟨_, _, rfl, .inr ⟨vs, .of h1, h2.length.symm⟩, hq _ H (Le.refl _ _) (post_int st)⟩
  · cases e
    obtain ⟨v, rfl, h⟩ := rdl1 r
    obtain ⟨a, rfl, h1⟩ := scr_inv h
    exact ⟨_, _, rfl, .inl ⟨_, h1, by rw [List.length_map]⟩, hq _ H (Le.refl _ _) (post_int st)⟩
  · cases e
theorem c_abs : CallO X (.builtin "abs") cAbs := CallR.imp call_abs fun xs H Q ⟨mu, M, ps, d, st, r, e, hq⟩ => by
  unfold cAbs at e
  split at e
  · cases e
    obtain ⟨v, rfl, h⟩ := rdl1 r
    exact ⟨_, by rw [rd_int h], hq _ H (Le.refl _ _) (post_int st)⟩
  · cases e
theorem c_int : CallO X (.type "int") cInt := CallR.imp (call_int1.or call_int_str) fun xs H Q ⟨mu, M, ps, d, st, r, e, hq⟩ => by
  unfold cInt at e
  split at e
  · cases e
    obtain ⟨v, rfl, h⟩ := rdl1 r
    exact .inl (.inl ⟨_, by rw [rd_int h], hq _ H (Le.refl _ _) (post_int st)⟩)
  · cases e
    obtain ⟨v, rfl, h⟩ := rdl1 r
    exact .inl (.inr ⟨_, by rw [rd_bl h], hq _ H (Le.refl _ _) (post_int st)⟩)
  · rename_i s
    split at e
    · rename_i hl
      cases k : PySem.intText? s with
      | none => rw [k] at e; cases e
      | some n =>
        rw [k] at e; cases e
        obtain ⟨v, rfl, h⟩ := rdl1 r
        exact .inr ⟨s, n, by rw [rd_str h], k, hl, hq _ H (Le.refl _ _) (post_int st)⟩
    · cases e
  · cases e
theorem c_str : CallO X (.type "str") cStr := CallR.imp (call_str_int.or call_str_bool) fun xs H Q ⟨mu, M, ps, d, st, r, e, hq⟩ => by
  unfold cStr at e
  split at e
  · split at e
    · rename_i i hl
      cases e
      obtain ⟨v, rfl, h⟩ := rdl1 r
      exact .inl ⟨i, by rw [rd_int h], Nat.lt_of_lt_of_le (PySem.Flt.log2_lt_of (by decide) hl) (by decide), hq _ H (Le.refl _ _) (post_str st)⟩
    · cases e
  · cases e
    obtain ⟨v, rfl, h⟩ := rdl1 r
    exact .inr ⟨_, by rw [rd_bl h], hq _ H (Le.refl _ _) (post_str st)⟩
  · cases e
theorem c_max (hc : X.calm = true) : CallO X (.builtin "max") cMax := CallR.imp ((call_max2 hc).or (cr_max hc)) fun xs H Q ⟨mu, M, ps, d, st, r, e, hq⟩ => by
  unfold cMax at e
  split at e
  · cases e
    obtain ⟨v, w, rfl, h1, h2⟩ := rdl2 r
    exact .inl ⟨_, _, by rw [rd_int h1, rd_int h2], hq _ H (Le.refl _ _) (post_int st)⟩
  · split at e
    · rename_i ns hn
      split at e
      · cases e
      · rename_i hne
        cases e
        obtain ⟨v, rfl, h⟩ := rdl1 r
        obtain ⟨a, vs, rfl, h1, h2⟩ := rd_lst h
        have ev := ints_rep hn h2
        obtain ⟨m1, m2⟩ := maxL_mem hne
        refine .inr ⟨a, ns, rfl, .of (by rw [h1, ev]), List.length_pos_iff.mpr hne, fun m k1 k2 => ?_⟩
        have : m = maxL ns := Int.le_antisymm (m2 m k1) (k2 _ m1)
        rw [this]
        exact hq _ H (Le.refl _ _) (post_int st)
    · cases e
  · cases e
theorem c_min (hc : X.calm = true) : CallO X (.builtin "min") cMin := CallR.imp ((call_min2 hc).or (cr_min hc)) fun xs H Q ⟨mu, M, ps, d, st, r, e, hq⟩ => by
  unfold cMin at e
  split at e
  · cases e
    obtain ⟨v, w, rfl, h1, h2⟩ := rdl2 r
    exact .inl ⟨_, _, by rw [rd_int h1, rd_int h2], hq _ H (Le.refl _ _) (post_int st)⟩
  · split at e
    · rename_i ns hn
      split at e
      · cases e
      · rename_i hne
        cases e
        obtain ⟨v, rfl, h⟩ := rdl1 r
        obtain ⟨a, vs, rfl, h1, h2⟩ := rd_lst h
        have ev := ints_rep hn h2
        obtain ⟨m1, m2⟩ := minL_mem hne
        refine .inr ⟨a, ns, rfl, .of (by rw [h1, ev]), List.length_pos_iff.mpr hne, fun m k1 k2 => ?_⟩
        have : m = minL ns := Int.le_antisymm (k2 _ m1) (m2 m k1)
        rw [this]
        exact hq _ H (Le.refl _ _) (post_int st)
    · cases e
  · cases e
theorem c_sum (hc : X.calm = true) : CallO X (.builtin "sum") cSum := CallR.imp (cr_sum hc) fun xs H Q ⟨mu, M, ps, d, st, r, e, hq⟩ => by
  unfold cSum at e
  split at e
  · rename_i ps
    cases k : intsOf ps with
    | none => rw [k] at e; cases e
    | some ns =>
      rw [k] at e; cases e
      obtain ⟨v, rfl, h⟩ := rdl1 r
      obtain ⟨a, vs, rfl, h1, h2⟩ := rd_lst h
      exact ⟨a, ns, rfl, .of (by rw [h1, ints_rep k h2]), hq _ H (Le.refl _ _) (post_int st)⟩
  · cases e
theorem c_all (hc : X.calm = true) : CallO X (.builtin "all") cAll := CallR.imp (cr_all hc) fun xs H Q ⟨mu, M, ps, d, st, r, e, hq⟩ => by
  unfold cAll at e
  split at e
  · rename_i ps
    cases k : blsOf ps with
    | none => rw [k] at e; cases e
    | some ns =>
      rw [k] at e; cases e
      obtain ⟨v, rfl, h⟩ := rdl1 r
      obtain ⟨a, vs, rfl, h1, h2⟩ := rd_lst h
      exact ⟨a, ns, rfl, .of (by rw [h1, bls_rep k h2]), hq _ H (Le.refl _ _) (post_bl st)⟩
  · cases e
theorem c_tuple : CallO X (.type "tuple") cTuple := CallR.imp call_tuple_of fun xs H Q ⟨mu, M, ps, d, st, r, e, hq⟩ => by
  unfold cTuple at e
  split at e
  · cases e
    obtain ⟨v, rfl, h⟩ := rdl1 r
    obtain ⟨a, vs, rfl, h1, h2⟩ := rd_lst h
    exact ⟨a, vs, rfl, .inl ⟨.of h1, fun l hl => hq _ _ (Le.upd hl) (post_tup st hl h2)⟩⟩
  · cases e
    obtain ⟨v, rfl, h⟩ := rdl1 r
    obtain ⟨a, vs, rfl, h0, h1, h2⟩ := rd_tup h
    refine ⟨a, vs, rfl, .inr ⟨.of h1, hq _ H (Le.refl _ _) ⟨st, ?_⟩⟩⟩
    show Rep _ _ _ (.tup _) _
    unfold Rep
    exact ⟨a, vs, rfl, h0, h1, h2⟩
  · cases e
theorem c_list : CallO X (.type "list") cList := CallR.imp call_list_of fun xs H Q ⟨mu, M, ps, d, st, r, e, hq⟩ => by
  unfold cList at e
  split at e
  · cases e
    obtain ⟨v, rfl, h⟩ := rdl1 r
    obtain ⟨a, vs, rfl, h1, h2⟩ := rd_lst h
    exact ⟨a, vs, rfl, .inl (.of h1), fun l hl => hq _ _ (Le.upd hl) (post_nw st hl h2)⟩
  · cases e
    obtain ⟨v, rfl, h⟩ := rdl1 r
    obtain ⟨a, vs, rfl, h0, h1, h2⟩ := rd_tup h
    exact ⟨a, vs, rfl, .inr (.of h1), fun l hl => hq _ _ (Le.upd hl) (post_nw st hl h2)⟩
  · cases e
end

/-! ### methods that change nothing -/
def MtO (X : Cx) (id : String) (o : P → List P → Option D) : Prop :=
  MtR X id fun x xs H Q => ∃ mu M p ps d, StoOk X.g H mu mu M ∧ RdP X.g H mu p x ∧ RdL X.g H mu ps xs ∧ o p ps = some d ∧ ∀ v H', Le H mu H' mu → Post X.g H H' mu M d v → Q v H'
theorem MtR.imp {X : Cx} {f : String} {r r' : V → List V → Hp → VK → Prop} (h : MtR X f r) (i : ∀ y x H Q, r' y x H Q → r y x H Q) : MtR X f r' := fun pins s σ H y x v u Q I rx ry q => h pins s σ H y x v u Q I rx ry (i y x H Q q)
/-- the type of data -/
def isTy (T : String) : P → Bool
  | .str _ => T == "str"
  | .lst _ => T == "list"
  | _ => false
def eMt (T : String) (o : P → List P → Option D) (fa : EvD) (fs : EvA) : EvD := fun σ M => (fa σ M).bind fun d M1 => match d.get M1 with
  | some p0 => if isTy T p0 then (fs σ M1).bind fun ds M2 => (match d.get M2, getL M2 ds with
      | some p, some ps => (match o p ps with
        | some r => .ok r M2
        | none => .no)
      | _, _ => .no) else .no
  | none => .no
theorem ty_of {K : PySem.W.Frag} {g : Mg} {H : Hp} {e : List Addr} {p : P} {v : V} {T : String} (h : RdP g H e p v) (k : isTy T p = true) : tyV K T v H := by
  cases p <;> simp only [isTy, Bool.false_eq_true, beq_iff_eq] at k
  · subst k; rw [rd_str h]; exact rfl
  · subst k
    obtain ⟨a, vs, rfl, h1, h2⟩ := rd_lst h
    exact .inl ⟨rfl, vs, .of h1⟩
section
variable {X : Cx} {o e : Expr} {es : List Expr} {fa : EvD} {fs : EvA} {om : P → List P → Option D} {name : Str} {T id : String} {apos cpos : Pos}
theorem pv_mt (pa : PlainAttrs T) (slot : Slot T name id) (hty : typeOf (.builtin id) = pure (.type "method_descriptor")) (hm : MtO X id om) (ho : PEv X o fa) (ha : PAv X (e :: es) fs)
    (hbase : attributeBase o name X.env (eval o X.env) = eval o X.env)
    (hfew : ((backTo cpos (starEach (e :: es) X.env)).all (fun x => !x.1) && (backToKw cpos (keywordEach [] X.env)).all (fun x => x.1.isSome)
      && decide ((e :: es).length + ([] : List Keyword).length + (if ([] : List Keyword).isEmpty then 0 else 1) < 30)) = true)
    (hline : (apos.endLine == cpos.line) = true) (hs : starEach (e :: es) X.env = (false, eval e X.env) :: starEach es X.env) (hplain : (backTo cpos (starEach es X.env)).any (·.1) = false) :
    PEv X (.Call (.Attribute o name apos) (e :: es) [] cpos) (eMt T om fa fs) := fun W tk => PE.imp (pe_bm pa slot hty hm (ho W tk) (ha W tk) hbase hfew hline hs hplain) fun τ H Q ⟨σ, M, mu, s, st, h⟩ => by
  refine ⟨σ, M, mu, s, st, (PostO.bind h).mono fun x H1 ⟨mu1, d, M1, l1, st1, r1, h1⟩ => ?_⟩
  dsimp only at h1
  split at h1
  · rename_i p0 hp0
    split at h1
    · rename_i hT
      refine ⟨ty_of (r1.get st1 (by rw [get_val]; exact hp0)) hT, ?_⟩
      refine ⟨σ, M1, mu1, s.mono l1, st1, (PostA.bind h1).mono fun vs H2 ⟨mu2, ds, M2, l2, st2, r2, h2⟩ => ?_⟩
      split at h2
      · rename_i p ps e1 e2
        split at h2
        · rename_i r e3
          exact ⟨mu2, M2, p, ps, r, st2, (r1.mono l2).get st2 (by rw [get_val]; exact e1), getL_rd st2 e2 r2, e3, fun v H3 l3 p3 => h2 v H3 mu2 l3 p3⟩
        · exact h2.elim
      · exact h2.elim
    · exact h1.elim
  · exact h1.elim
def mJoin : P → List P → Option D
  | .str a, [.lst ps] => match strsOf ps with
    | some ys => if (ys.map (·.length)).sum + ys.length * a.length ≤ lim then some (.p (.str (Txt.join a ys))) else none
    | none => none
  | _, _ => none
def mSplit : P → List P → Option D
  | .str a, [.str b] => if b.length ≠ 0 ∧ a.length + 2 ≤ lim then some (.nw ((Txt.split a b).map P.str)) else none
  | _, _ => none
def mCount : P → List P → Option D
  | .lst ps, [.int k] => match intsOf ps with
    | some ns => some (.p (.int (ns.count k)))
    | none => none
  | .lst ps, [.str k] => match strsOf ps with
    | some ns => some (.p (.int (ns.count k)))
    | none => none
  | _, _ => none
theorem eqU_count {z : Str} : ∀ {ys : List Str} {us : List Value}, Vals (ys.map V.str) us → us.countP (eqU (.str z)) = ys.count z
  | [], _, .nil => rfl
  | y :: ys, _, .cons r t => by
    have ih := eqU_count (z := z) t
    obtain ⟨k, rfl⟩ := r
    rw [List.countP_cons, List.count_cons, ih]; rfl
theorem flat_strs_ (ys : List Str) : (ys.map V.str).all flatV = true := by
  rw [List.all_map]
  exact List.all_eq_true.mpr fun _ _ => rfl
def rCntS (K : PySem.W.Frag) : V → List V → Hp → VK → Prop := fun x xs H Q => ∃ (p : Addr) (ns : List Str) (k : Str), x = .ref p ∧ xs = [.str k] ∧ SqL K H p (ns.map V.str) ∧ Q (.int (ns.count k : Nat)) H
theorem mt_lcountS : MtR X "list.count" (rCntS X.K) := by
  intro pins s σ H x xs v us Q I rx rxs h
  obtain ⟨p, ns, k, rfl, rfl, hs, q⟩ := h
  cases rx
  obtain ⟨u, rfl, ru⟩ := rxs.one
  obtain ⟨t, rfl⟩ := ru
  obtain ⟨its, rv, ⟨⟨cls, dd, data, sl⟩, n, ho, hc, hdn, hd⟩, hlen⟩ := I.list hs
  simp only at hc hd
  subst hc hd
  refine call_meets PySem.F.slot_list_count ⟨_, ho, rfl⟩ PySem.F.entry_list_count (PySem.F.args_list_count_2 _ _)
    (SeqAt.list_countAt p its.toArray n dd sl (.str k t) (eqU (.str k))) ⟨ho, fun w hw => mem_eqAt (x := .str k) ⟨t, rfl⟩ rfl rv (flat_strs_ ns) w (by simpa using hw), ?_⟩
  have ec : its.toArray.toList.countP (eqU (.str k)) = ns.count k := eqU_count rv
  refine ⟨.int (ns.count k : Nat), H, I.tok _, ⟨s.toks, ?_⟩, q⟩
  show Value.int ((its.toArray.toList.countP (eqU (.str k)) : Nat) : Int) s.toks = Value.int ((ns.count k : Nat) : Int) s.toks
  rw [ec]
/-- the place of the one sign -/
def mIndexS : P → List P → Option D
  | .str a, [.str b] => match Txt.index0 a b with
    | some k => some (.p (.int (k : Nat)))
    | none => none
  | _, _ => none
def findV (x : V) : List V → Nat → Option Nat
  | [], _ => none
  | y :: ys, j => if eqV y x then some j else findV x ys (j + 1)
def mIndexL : P → List P → Option D
  | .lst ps, [q] => match flatP q, flatL ps with
    | some v, some vs => (findV v vs 0).map fun j => .p (.int (j : Nat))
    | _, _ => none
  | _, _ => none
theorem m_join : MtO X "str.join" mJoin := MtR.imp mt_join fun x xs H Q ⟨mu, M, p, ps, d, st, rx, r, e, hq⟩ => by
  unfold mJoin at e
  split at e
  · split at e
    · rename_i ys hy
      split at e
      · rename_i hl
        cases e
        obtain ⟨v, rfl, h⟩ := rdl1 r
        obtain ⟨a, vs, rfl, h1, h2⟩ := rd_lst h
        exact ⟨_, a, ys, rd_str rx, rfl, .inl (.of (by rw [h1, strs_rep hy h2])), lim_le hl, hq _ H (Le.refl _ _) (post_str st)⟩
      · cases e
    · cases e
  · cases e
theorem m_split : MtO X "str.split" mSplit := MtR.imp mt_split fun x xs H Q ⟨mu, M, p, ps, d, st, rx, r, e, hq⟩ => by
  unfold mSplit at e
  split at e
  · split at e
    · rename_i hl
      cases e
      obtain ⟨v, rfl, h⟩ := rdl1 r
      exact ⟨_, _, rd_str rx, by rw [rd_str h], by simpa using hl.1, lim_le hl.2, fun q hn => hq _ _ (Le.upd hn) (post_nw st hn (RepL.of_strs _))⟩
    · cases e
  · cases e
theorem m_count : MtO X "list.count" mCount := MtR.imp (mt_lcount.or mt_lcountS) fun x xs H Q ⟨mu, M, p, ps, d, st, rx, r, e, hq⟩ => by
  unfold mCount at e
  split at e
  · split at e
    · rename_i ns hn
      cases e
      obtain ⟨v, rfl, h⟩ := rdl1 r
      obtain ⟨a, vs, rfl, h1, h2⟩ := rd_lst rx
      exact .inl ⟨a, ns, _, rfl, by rw [rd_int h], .of (by rw [h1, ints_rep hn h2]), hq _ H (Le.refl _ _) (post_int st)⟩
    · cases e
  · split at e
    · rename_i ns hn
      cases e
      obtain ⟨v, rfl, h⟩ := rdl1 r
      obtain ⟨a, vs, rfl, h1, h2⟩ := rd_lst rx
      exact .inr ⟨a, ns, _, rfl, by rw [rd_str h], .of (by rw [h1, strs_rep hn h2]), hq _ H (Le.refl _ _) (post_int st)⟩
    · cases e
  · cases e
theorem m_indexS (hc : X.calm = true) : MtO X "str.index" mIndexS := fun pins s σ H x xs v us Q I rx rs ⟨mu, M, p, ps, d, st, rp, r, e, hq⟩ => by
  refine mt_indexX (W := fun _ _ _ _ => False) hc takes0 pins s σ H x xs v us Q I rx rs ?_
  unfold mIndexS at e
  split at e
  · split at e
    · rename_i k hk
      cases e
      obtain ⟨v, rfl, h⟩ := rdl1 r
      refine ⟨_, _, rd_str rp, by rw [rd_str h], fun k' hk' => ?_, fun z => by rw [hk] at z; cases z⟩
      rw [hk] at hk'
      cases hk'
      exact hq _ H (Le.refl _ _) (post_int st)
    · cases e
  · cases e
theorem findV_some {x : V} : ∀ {ys : List V} {k j : Nat}, findV x ys k = some j → ∃ z, k ≤ j ∧ ys[j - k]? = some z ∧ eqV z x = true ∧ ∀ (m : Nat) (z' : V), m < j - k → ys[m]? = some z' → eqV z' x = false
  | [], _, _, h => by cases h
  | y :: ys, k, j, h => by
    unfold findV at h
    split at h
    · rename_i hy
      cases h
      exact ⟨y, Nat.le_refl _, by simp, hy, fun m z' hm => by omega⟩
    · rename_i hy
      obtain ⟨z, h1, h2, h3, h4⟩ := findV_some h
      have e : j - k = (j - (k + 1)) + 1 := by omega
      refine ⟨z, by omega, by rw [e]; simpa using h2, h3, fun m z' hm hz => ?_⟩
      cases m with
      | zero =>
        simp at hz
        subst hz
        simpa using hy
      | succ m => exact h4 m z' (by omega) (by simpa using hz)
theorem m_indexL : MtO X "list.index" mIndexL := MtR.imp mt_index fun x xs H Q ⟨mu, M, p, ps, d, st, rx, r, e, hq⟩ => by
  unfold mIndexL at e
  split at e
  · split at e
    · rename_i w vs e1 e2
      cases k : findV w vs 0 with
      | none => rw [k] at e; cases e
      | some j =>
        rw [k] at e; cases e
        obtain ⟨v, rfl, h⟩ := rdl1 r
        obtain ⟨a, us, rfl, h1, h2⟩ := rd_lst rx
        have h' := rd_rep h fun ps z => by subst z; cases e1
        obtain ⟨rfl, fx⟩ := flat_rep h' e1
        obtain ⟨rfl, fl⟩ := flat_repL h2 e2
        obtain ⟨z, _, k2, k3, k4⟩ := findV_some k
        exact ⟨a, us, v, j, z, rfl, rfl, .of h1, fx, fl, k2, k3, k4, hq _ H (Le.refl _ _) (post_int st)⟩
    · cases e
  · cases e

/-! ### sorted of pairs of ints -/
def pairsOf : List P → Option (List (Int × Int))
  | [] => some []
  | .tup [.int a, .int b] :: ps => (pairsOf ps).map fun r => (a, b) :: r
  | _ :: _ => none
def pairP (x : Int × Int) : P := .tup [.int x.1, .int x.2]
def insP (x : Int × Int) : List (Int × Int) → List (Int × Int)
  | [] => [x]
  | y :: r => if SrtO.lexB y x then y :: insP x r else x :: y :: r
def sortP : List (Int × Int) → List (Int × Int)
  | [] => []
  | x :: r => insP x (sortP r)
theorem insP_perm (x : Int × Int) : ∀ l, (insP x l).Perm (x :: l)
  | [] => List.Perm.refl _
  | y :: r => by
    unfold insP
    split
    · exact ((insP_perm x r).cons y).trans (List.Perm.swap _ _ _)
    · exact List.Perm.refl _
theorem sortP_perm : ∀ l, (sortP l).Perm l
  | [] => List.Perm.refl _
  | x :: r => (insP_perm x _).trans ((sortP_perm r).cons x)
def leP (x y : Int × Int) : Prop := SrtO.lexB y x = false
theorem leP_iff {x y : Int × Int} : leP x y ↔ x.1 < y.1 ∨ (x.1 = y.1 ∧ x.2 ≤ y.2) := by
  unfold leP
  rw [Bool.eq_false_iff, Ne, SrtO.lexB_iff]
  omega
theorem insP_sorted (x : Int × Int) : ∀ {l}, List.Pairwise leP l → List.Pairwise leP (insP x l)
  | [], _ => List.pairwise_singleton _ _
  | y :: r, h => by
    obtain ⟨h1, h2⟩ := List.pairwise_cons.mp h
    unfold insP
    split
    · rename_i hy
      refine List.pairwise_cons.mpr ⟨fun z hz => ?_, insP_sorted x h2⟩
      rcases List.mem_cons.mp ((insP_perm x r).mem_iff.mp hz) with rfl | hz
      · have := SrtO.lexB_iff.mp hy
        rw [leP_iff]; omega
      · exact h1 z hz
    · rename_i hy
      have hxy : leP x y := by unfold leP; simpa using hy
      refine List.pairwise_cons.mpr ⟨fun z hz => ?_, h⟩
      rcases List.mem_cons.mp hz with rfl | hz
      · exact hxy
      · have := h1 z hz
        rw [leP_iff] at *
        omega
theorem sortP_sorted : ∀ l, List.Pairwise leP (sortP l)
  | [] => List.Pairwise.nil
  | x :: r => insP_sorted x (sortP_sorted r)
theorem leP_uniq : ∀ {l m : List (Int × Int)}, l.Perm m → List.Pairwise leP l → List.Pairwise leP m → l = m
  | [], m, h, _, _ => (List.Perm.eq_nil h.symm).symm
  | x :: l, [], h, _, _ => absurd h.length_eq (by simp)
  | x :: l, y :: m, h, hl, hm => by
    obtain ⟨a1, a2⟩ := List.pairwise_cons.mp hl
    obtain ⟨b1, b2⟩ := List.pairwise_cons.mp hm
    have e : x = y := by
      have hx : x ∈ y :: m := h.mem_iff.mp List.mem_cons_self
      have hy : y ∈ x :: l := h.mem_iff.mpr List.mem_cons_self
      rcases List.mem_cons.mp hx with e | hx
      · exact e
      · rcases List.mem_cons.mp hy with e | hy
        · exact e.symm
        · have p := b1 x hx
          have q := a1 y hy
          rw [leP_iff] at p q
          exact Prod.ext (by omega) (by omega)
    subst e
    rw [leP_uniq h.cons_inv a2 b2]
def cSorted : List P → Option D
  | [.lst ps] => (pairsOf ps).map fun l => .nw ((sortP l).map pairP)
  | _ => none
/-- the pair that stands at a value -/
def keyAt (H : Hp) : V → Int × Int
  | .ref t => match H t with
    | some (.tup [.int a, .int b]) => (a, b)
    | _ => (0, 0)
  | _ => (0, 0)
theorem pairsOf_rep {g : Mg} {H : Hp} {e : List Addr} : ∀ {ps : List P} {l : List (Int × Int)} {vs : List V}, pairsOf ps = some l → RepL g H e ps vs →
    vs.map (keyAt H) = l ∧ ∀ x ∈ vs, ∃ t, x = V.ref t ∧ t ∉ e ∧ H t = some (.tup [.int (keyAt H x).1, .int (keyAt H x).2])
  | [], l, vs, k, h => by unfold pairsOf at k; cases k; rw [h.nil_inv]; exact ⟨rfl, fun x hx => absurd hx (by simp)⟩
  | q :: ps, l, vs, k, h => by
    unfold pairsOf at k
    split at k
    · rename_i h0; cases h0
    · rename_i a b ps' h0
      injection h0 with h01 h02
      subst h01 h02
      obtain ⟨v, r, rfl, h1, h2⟩ := h.cons_inv
      cases kk : pairsOf ps with
      | none => rw [kk] at k; cases k
      | some m =>
        rw [kk] at k
        cases k
        obtain ⟨i1, i2⟩ := pairsOf_rep kk h2
        unfold Rep at h1
        obtain ⟨t, us, rfl, ht, g1, g2⟩ := h1
        obtain ⟨u1, r1, rfl, j1, j2⟩ := g2.cons_inv
        obtain ⟨u2, r2, rfl, j3, j4⟩ := j2.cons_inv
        have j5 := j4.nil_inv
        subst j5
        unfold Rep at j1 j3
        subst j1 j3
        have ek : keyAt H (.ref t) = (a, b) := by
          show (match H t with
            | some (.tup [.int a, .int b]) => (a, b)
            | _ => ((0, 0) : Int × Int)) = (a, b)
          rw [g1]
        refine ⟨by rw [List.map_cons, ek, i1], fun x hx => ?_⟩
        rcases List.mem_cons.mp hx with rfl | hx
        · exact ⟨t, rfl, ht, by rw [ek]; exact g1⟩
        · exact i2 x hx
    · cases k
theorem pair_repL {g : Mg} {H : Hp} {e : List Addr} : ∀ {vs : List V}, (∀ x ∈ vs, ∃ t, x = V.ref t ∧ t ∉ e ∧ H t = some (.tup [.int (keyAt H x).1, .int (keyAt H x).2])) → RepL g H e ((vs.map (keyAt H)).map pairP) vs
  | [], _ => RepL.nil
  | v :: r, h => by
    obtain ⟨t, h1, h2, h3⟩ := h v List.mem_cons_self
    refine RepL.cons ?_ (pair_repL fun x hx => h x (List.mem_cons_of_mem _ hx))
    unfold pairP
    unfold Rep
    exact ⟨t, _, h1, h2, h3, RepL.cons (by unfold Rep; rfl) (RepL.cons (by unfold Rep; rfl) RepL.nil)⟩
theorem c_sorted : CallO X (.builtin "sorted") cSorted := CallR.imp cr_sortedPO fun xs H Q ⟨mu, M, ps, d, st, r, e, hq⟩ => by
  unfold cSorted at e
  split at e
  · rename_i ps
    cases k : pairsOf ps with
    | none => rw [k] at e; cases e
    | some l =>
      rw [k] at e
      cases e
      obtain ⟨v, rfl, h⟩ := rdl1 r
      obtain ⟨a, vs, rfl, h1, h2⟩ := rd_lst h
      obtain ⟨i1, i2⟩ := pairsOf_rep k h2
      refine ⟨a, vs, keyAt H, rfl, .of h1, fun x hx => ?_, fun ys p s1 s2 hp => ?_⟩
      · obtain ⟨t, e1, _, e2⟩ := i2 x hx
        exact ⟨t, e1, e2⟩
      · have pm : (ys.map (keyAt H)).Perm l := by rw [← i1]; exact s2.perm.map _
        have so : List.Pairwise leP (ys.map (keyAt H)) := List.pairwise_map.mpr s1
        have eq := leP_uniq (pm.trans (sortP_perm l).symm) so (sortP_sorted l)
        have rp := pair_repL (g := X.g) (H := H) (e := mu) (vs := ys) fun x hx => i2 x (s2.perm.mem_iff.mp hx)
        rw [eq] at rp
        exact hq _ _ (Le.upd hp) (post_nw st hp rp)
  · cases e
end
end Ev

set_option Elab.async false
set_option linter.all false
set_option maxRecDepth 100000
set_option maxHeartbeats 4000000
/-! Core6: statements, functions. -/
namespace Ev
open PySem PySem.Spec PyProof.Rows L2

inductive Fl where
  | nx (σ : Fr) | rt (d : D) | bk (σ : Fr) | ct (σ : Fr)
inductive OutS where
  | ok (f : Fl) (M : Sto) | er (c : Str) (n : Option Int) (σ : Fr) (M : Sto) | no
abbrev EvS := Fr → Sto → OutS
def EndsF (g : Mg) (H : Hp) (mu : List Addr) (D : Ends) (M : Sto) : Fl → Prop
  | .nx σ => ∀ τ' H' mu', Le H mu H' mu' → SlOk g H' mu' σ τ' → StoOk g H' mu' mu' M → D.nx τ' H'
  | .bk σ => ∀ τ' H' mu', Le H mu H' mu' → SlOk g H' mu' σ τ' → StoOk g H' mu' mu' M → D.bk τ' H'
  | .ct σ => ∀ τ' H' mu', Le H mu H' mu' → SlOk g H' mu' σ τ' → StoOk g H' mu' mu' M → D.ct τ' H'
  | .rt d => ∀ v H' mu', Le H mu H' mu' → Post g H H' mu' M d v → D.rt v H'
def PostS (g : Mg) (H : Hp) (mu : List Addr) (W : WX) (o : OutS) (D : Ends) : Prop :=
  match o with
  | .ok f M => EndsF g H mu D M f
  | .er c n σ M => ∀ cls dd τ' H' mu', Le H mu H' mu' → SlOk g H' mu' σ τ' → StoOk g H' mu' mu' M → ExcR g c n cls dd H' → W cls dd τ' H'
  | .no => False
def tS (g : Mg) (W : WX) (f : EvS) : TS := fun D τ H => ∃ σ M mu, SlOk g H mu σ τ ∧ StoOk g H mu mu M ∧ PostS g H mu W (f σ M) D
def PSv (X : Cx) (st : Stmt) (f : EvS) : Prop := ∀ W, L2N.Takes X W → PS X st (tS X.g W f)
def PSsv (X : Cx) (st : List Stmt) (f : EvS) : Prop := ∀ W, L2N.Takes X W → PSs X st (tS X.g W f)
theorem PS.imp {X : Cx} {e : Stmt} {t t' : TS} (h : PS X e t) (i : ∀ D τ H, t' D τ H → t D τ H) : PS X e t' := ⟨fun pins s σ H D I q => h.run pins s σ H D I (i D σ H q)⟩
theorem PSs.imp {X : Cx} {e : List Stmt} {t t' : TS} (h : PSs X e t) (i : ∀ D τ H, t' D τ H → t D τ H) : PSs X e t' := ⟨fun pins s σ H D I q => h.run pins s σ H D I (i D σ H q)⟩

@[simp] def Out.toS {α : Type} : Out α → Fr → (α → Sto → OutS) → OutS
  | .ok a M, _, k => k a M
  | .er c n M, σ, _ => .er c n σ M
  | .no, _, _ => .no
def sNil : EvS := fun σ M => .ok (.nx σ) M
def sSeq (f r : EvS) : EvS := fun σ M => match f σ M with
  | .ok (.nx σ1) M1 => r σ1 M1
  | o => o
def sExpr (f : EvD) : EvS := fun σ M => (f σ M).toS σ fun _ M1 => .ok (.nx σ) M1
def sRet (f : EvD) : EvS := fun σ M => (f σ M).toS σ fun d M1 => .ok (.rt d) M1
def sRetN : EvS := fun _ M => .ok (.rt (.p .non)) M
def sIf (c : EvB) (f r : EvS) : EvS := fun σ M => (c σ M).toS σ fun b M1 => if b = true then f σ M1 else r σ M1
def sSet (i : Nat) (f : EvD) : EvS := fun σ M => (f σ M).toS σ fun d M1 => .ok (.nx (σ.set i (some d.val))) M1
/-- of a variable whose list will change -/
def sSetM (i : Nat) (f : EvD) : EvS := fun σ M => (f σ M).toS σ fun d M1 => match d with
  | .nw ps => .ok (.nx (σ.set i (some (.loc M1.length)))) (M1 ++ [.lst ps])
  | d => .ok (.nx (σ.set i (some d))) M1
def sBk : EvS := fun σ M => .ok (.bk σ) M
def sCt : EvS := fun σ M => .ok (.ct σ) M
def sRaise (x : Str) : EvS := fun σ M => .er x none σ M

section
variable {g : Mg} {H H' : Hp} {mu mu' : List Addr} {τ : L2.St} {W : WX} {D D' : Ends} {σ : Fr} {M : Sto}
theorem PostS.shift {o : OutS} (l : Le H mu H' mu') (h : PostS g H mu W o D) : PostS g H' mu' W o D := by
  cases o with
  | ok f M =>
    cases f with
    | nx σ => exact fun t H2 mu2 l2 s p => h t H2 mu2 (l.trans l2) s p
    | bk σ => exact fun t H2 mu2 l2 s p => h t H2 mu2 (l.trans l2) s p
    | ct σ => exact fun t H2 mu2 l2 s p => h t H2 mu2 (l.trans l2) s p
    | rt d => exact fun v H2 mu2 l2 p => h v H2 mu2 (l.trans l2) (p.back l.back)
  | er c n σ M => exact fun cls dd t H2 mu2 l2 s st x => h cls dd t H2 mu2 (l.trans l2) s st x
  | no => exact h
theorem PostO.bindS {o : Out Ev.D} {k : Ev.D → Sto → OutS} (s : SlOk g H mu σ τ) (h : PostS g H mu W (o.toS σ k) D) : PostO g H mu τ W o (Then g H mu fun d M' H' mu' => PostS g H' mu' W (k d M') D) := by
  cases o with
  | ok d M => exact fun v H2 mu2 l2 p => ⟨mu2, d, M, l2, p.val.1, p.val.2, PostS.shift l2 h⟩
  | er c n M => exact fun cls dd H2 mu2 l2 st x => h cls dd τ H2 mu2 l2 (s.mono l2) st x
  | no => exact h.elim
theorem PostB.bindS {o : Out Bool} {k : Bool → Sto → OutS} (s : SlOk g H mu σ τ) (h : PostS g H mu W (o.toS σ k) D) : PostB g H mu τ W o (fun b H' => ∃ mu' M', Le H mu H' mu' ∧ StoOk g H' mu' mu' M' ∧ PostS g H' mu' W (k b M') D) := by
  cases o with
  | ok d M => exact fun H2 mu2 l2 p => ⟨mu2, M, l2, p, PostS.shift l2 h⟩
  | er c n M => exact fun cls dd H2 mu2 l2 st x => h cls dd τ H2 mu2 l2 (s.mono l2) st x
  | no => exact h.elim
theorem PostA.bindS {o : Out (List Ev.D)} {k : List Ev.D → Sto → OutS} (s : SlOk g H mu σ τ) (h : PostS g H mu W (o.toS σ k) D) : PostA g H mu τ W o (fun vs H' => ∃ mu' ds M', Le H mu H' mu' ∧ StoOk g H' mu' mu' M' ∧ RepDL g H' mu' ds vs ∧ PostS g H' mu' W (k ds M') D) := by
  cases o with
  | ok ds M => exact fun vs H2 mu2 l2 st r => ⟨mu2, ds, M, l2, st, r, PostS.shift l2 h⟩
  | er c n M => exact fun cls dd H2 mu2 l2 st x => h cls dd τ H2 mu2 l2 (s.mono l2) st x
  | no => exact h.elim
/-- the end nx changed -/
theorem PostS.seq {f r : EvS} (h : PostS g H mu W (sSeq f r σ M) D) : PostS g H mu W (f σ M) { D with nx := tS g W r D } := by
  unfold sSeq at h
  split at h
  · rename_i σ1 M1 e
    rw [e]
    exact fun t H2 mu2 l2 s st => ⟨σ1, M1, mu2, s, st, PostS.shift l2 h⟩
  · rename_i o hne
    revert h
    cases e : f σ M with
    | ok fl M1 =>
      cases fl with
      | nx σ1 => exact absurd e (hne σ1 M1)
      | bk _ => exact fun h => h
      | ct _ => exact fun h => h
      | rt _ => exact fun h => h
    | er _ _ _ _ => exact fun h => h
    | no => exact fun h => h
end
section
variable {X : Cx} {e c : Expr} {f fa : EvD} {k : EvB} {r1 r2 : EvS} {st : Stmt} {rest a b : List Stmt} {pos : Pos}
theorem pssv_nil : PSsv X [] sNil := fun W tk => PSs.imp pss_nil fun D τ H ⟨σ, M, mu, s, st, h⟩ => h τ H mu (Le.refl _ _) s st
theorem pssv_cons (h1 : PSv X st r1) (h2 : PSsv X rest r2) : PSsv X (st :: rest) (sSeq r1 r2) := fun W tk =>
  PSs.imp (pss_cons (h1 W tk) (h2 W tk)) fun D τ H ⟨σ, M, mu, s, st, h⟩ => ⟨σ, M, mu, s, st, h.seq⟩
theorem psv_pass : PSv X (.Pass pos) sNil := fun W tk => PS.imp ps_pass fun D τ H ⟨σ, M, mu, s, st, h⟩ => h τ H mu (Le.refl _ _) s st
theorem psv_bk : PSv X (.Break pos) sBk := fun W tk => PS.imp ps_break fun D τ H ⟨σ, M, mu, s, st, h⟩ => h τ H mu (Le.refl _ _) s st
theorem psv_ct : PSv X (.Continue pos) sCt := fun W tk => PS.imp ps_continue fun D τ H ⟨σ, M, mu, s, st, h⟩ => h τ H mu (Le.refl _ _) s st
theorem psv_expr (he : PEv X e f) (hs : swapsWith e none pos.line X.env = pure false) : PSv X (.Expr e pos) (sExpr f) := fun W tk =>
  PS.imp (ps_expr (he W tk) hs) fun D τ H ⟨σ, M, mu, s, st, h⟩ =>
    ⟨σ, M, mu, s, st, (PostO.bindS s h).mono fun v H1 ⟨mu1, d, M1, l1, st1, r1, h1⟩ => h1 τ H1 mu1 (Le.refl _ _) (s.mono l1) st1⟩
theorem psv_ret (he : PEv X e f) : PSv X (.Return (some e) pos) (sRet f) := fun W tk =>
  PS.imp (ps_ret (he W tk)) fun D τ H ⟨σ, M, mu, s, st, h⟩ => by
    refine ⟨σ, M, mu, s, st, ?_⟩
    unfold sRet at h
    cases e : f σ M with
    | ok d M1 => rw [e] at h; exact h
    | er c n M1 => rw [e] at h; exact fun cls dd H2 mu2 l2 st x => h cls dd τ H2 mu2 l2 (s.mono l2) st x
    | no => rw [e] at h; exact h
theorem psv_retN : PSv X (.Return none pos) sRetN := fun W tk => PS.imp ps_retN fun D τ H ⟨σ, M, mu, s, st, h⟩ => h .non H mu (Le.refl _ _) ⟨st, by show Rep _ _ _ _ _; unfold Rep; rfl⟩
theorem psv_if (hc : PTv X c k) (ha : PSsv X a r1) (hb : PSsv X b r2) : PSv X (.If c a b pos) (sIf k r1 r2) := fun W tk =>
  PS.imp (ps_if (hc W tk) (ha W tk) (hb W tk)) fun D τ H ⟨σ, M, mu, s, st, h⟩ => by
    refine ⟨σ, M, mu, s, st, (PostB.bindS s h).mono fun b H1 ⟨mu1, M1, l1, st1, h1⟩ => ?_⟩
    cases b with
    | true => exact iteT ⟨σ, M1, mu1, s.mono l1, st1, h1⟩
    | false => exact iteF ⟨σ, M1, mu1, s.mono l1, st1, h1⟩
theorem set_of {W : WX} {i : Nat} {D : Ends} {τ : L2.St} {H : Hp} (h : tS X.g W (sSet i f) D τ H) : tAsg (tE X.g W f) (gName i) D τ H := by
  obtain ⟨σ, M, mu, s, st, h⟩ := h
  exact ⟨σ, M, mu, s, st, (PostO.bindS s h).mono fun v H1 ⟨mu1, d, M1, l1, st1, r1, h1⟩ => h1 _ H1 mu1 (Le.refl _ _) ((s.mono l1).set i r1) st1⟩
theorem le_push {H₀ H : Hp} {mu₀ mu : List Addr} {p : Addr} (l : Le H₀ mu₀ H mu) (h : NT H₀ p) : Le H₀ mu₀ H (mu ++ [p]) :=
  ⟨l.pre.trans (List.prefix_append _ _), l.keep, fun a q => by
    rcases List.mem_append.mp q with q | q
    · exact l.new a q
    · rw [List.mem_singleton.mp q]; exact .inr h, l.back⟩
theorem setM_of {W : WX} {i : Nat} {D : Ends} {τ : L2.St} {H : Hp} (h : tS X.g W (sSetM i f) D τ H) : tAsg (tE X.g W f) (gName i) D τ H := by
  obtain ⟨σ, M, mu, s, st, h⟩ := h
  refine ⟨σ, M, mu, s, st, ?_⟩
  unfold sSetM at h
  cases e : f σ M with
  | ok d M1 =>
    rw [e] at h
    intro v H1 mu1 l1 p1
    cases d with
    | nw ps =>
      obtain ⟨p, vs, rfl, hp, hpm, h1, h2, h3⟩ := p1
      have l2 := le_push l1 hp
      refine h _ H1 (mu1 ++ [p]) l2 ?_ (h3.push hpm ⟨vs, h1, h2⟩)
      refine (s.mono l2).set i ⟨p, ?_, rfl⟩
      rw [← h3.len, List.getElem?_append_right (Nat.le_refl _), Nat.sub_self]
      rfl
    | p q => exact h _ H1 mu1 l1 ((s.mono l1).set i p1.val.2) p1.val.1
    | loc q => exact h _ H1 mu1 l1 ((s.mono l1).set i p1.val.2) p1.val.1
  | er c n M1 => rw [e] at h; exact fun cls dd H2 mu2 l2 st x => h cls dd τ H2 mu2 l2 (s.mono l2) st x
  | no => rw [e] at h; exact h
theorem psv_set {i : Nat} {x : Str} {pos' : Pos} (hN : X.N.Nodup) (hi : X.N[i]? = some x) (hx : Loc X.env.scope x) (he : PEv X e f) (hs : swapsWith e (some (.Name x pos')) pos.line X.env = pure false) (hf : X.fn x = true ∨ X.env.scope.names.lookup x = some .local) :
    PSv X (.Assign [.Name x pos'] e pos) (sSet i f) := fun W tk => PS.imp (ps_set hN hi hx (he W tk) hs hf) fun D τ H h => set_of h
theorem psv_setM {i : Nat} {x : Str} {pos' : Pos} (hN : X.N.Nodup) (hi : X.N[i]? = some x) (hx : Loc X.env.scope x) (he : PEv X e f) (hs : swapsWith e (some (.Name x pos')) pos.line X.env = pure false) (hf : X.fn x = true ∨ X.env.scope.names.lookup x = some .local) :
    PSv X (.Assign [.Name x pos'] e pos) (sSetM i f) := fun W tk => PS.imp (ps_set hN hi hx (he W tk) hs hf) fun D τ H h => setM_of h
end

/-! ### functions -/
abbrev Fn := List D → Sto → Out D
def spOf (g : Mg) (n : Nat) (F : Fn) : Sp := fun vs H Q E => ∃ ds M mu, ds.length = n ∧ RepDL g H mu ds vs ∧ StoOk g H mu mu M ∧ PostO g H mu [] (fun c d _ H => E c d H) (F ds M) Q
def FnG (P : Program) (w : World) (K : PySem.W.Frag) (mg : Str → Option Value) (base : Heap) (k : Nat) (x : Str) (n : Nat) (F : Fn) : Prop :=
  ∃ f fd ps, FnOk P w K mg base (L2N.CX P w) k f fd ps (spOf ⟨mg, K⟩ n F) ∧ mg x = some (.ref f) ∧ PySem.W.keepIn K (.ref f) = true ∧ Binds K fd ps []
theorem FnG.mono {P : Program} {w : World} {K : PySem.W.Frag} {mg : Str → Option Value} {base : Heap} {k k' : Nat} {x : Str} {n : Nat} {F : Fn} (h : FnG P w K mg base k x n F) (l : k ≤ k') : FnG P w K mg base k' x n F :=
  let ⟨f, fd, ps, a, b, c, d⟩ := h; ⟨f, fd, ps, a.mono l, b, c, d⟩
def eCall (n : Nat) (F : Fn) (fs : EvA) : EvD := fun σ M => (fs σ M).bind fun ds M1 => if ds.length = n then F ds M1 else .no
/-- what a def gives back: what it made for itself is gone -/
def leave (L : Nat) : OutS → Out D
  | .ok (.nx _) M => .ok (.p .non) (M.take L)
  | .ok (.rt (.loc n)) M => if n < L then .ok (.loc n) (M.take L) else match M[n]? with
    | some (.lst ps) => .ok (.nw ps) (M.take L)
    | some (.ins c fs) => .ok (.loc L) (M.take L ++ [.ins c fs])
    | none => .no
  | .ok (.rt d) M => .ok d (M.take L)
  | .ok _ _ => .no
  | .er c n _ M => .er c n (M.take L)
  | .no => .no
def fnB (N : Nat) (f : EvS) : Fn := fun ds M => leave M.length (f (ds.map some ++ List.replicate (N - ds.length) none) M)
section
variable {g : Mg} {H H' : Hp} {mu mu' : List Addr} {M M' : Sto}
theorem Le.cut (l : Le H mu H' mu') : Le H mu H' mu := ⟨List.prefix_refl _, l.keep, fun _ q => .inl q, l.back⟩
theorem StoOk.cut (s : StoOk g H' mu' mu' M') (l : Le H mu H' mu') : StoOk g H' mu mu (M'.take mu.length) := by
  obtain ⟨t, rfl⟩ := l.pre
  have hl := s.len
  rw [List.length_append] at hl
  refine ⟨s.tab, ?_, (List.nodup_append.mp s.nd).1, fun _ q => q, fun n mo q => ?_⟩
  · rw [List.length_take]; omega
  · have hn : n < mu.length := by
      have := (List.getElem?_eq_some_iff.mp q).1
      rw [List.length_take] at this; omega
    rw [List.getElem?_take_of_lt hn] at q
    obtain ⟨a, h1, h2⟩ := s.obj n mo q
    rw [List.getElem?_append_left hn] at h1
    exact ⟨a, h1, h2.less fun a q => List.mem_append_left _ q⟩
theorem StoOk.cutx {p : Addr} (s : StoOk g H' mu' mu' M') (l : Le H mu H' mu') (hp : p ∈ mu') (hn : p ∉ mu) : StoOk g H' mu (mu ++ [p]) (M'.take mu.length) := by
  obtain ⟨t, rfl⟩ := l.pre
  have sub : ∀ a, a ∈ mu ++ [p] → a ∈ mu ++ t := fun a q => by
    rcases List.mem_append.mp q with q | q
    · exact List.mem_append_left _ q
    · rw [List.mem_singleton.mp q]; exact hp
  have hl := s.len
  rw [List.length_append] at hl
  refine ⟨s.tab, ?_, (List.nodup_append.mp s.nd).1, fun a q => List.mem_append_left _ q, fun n mo q => ?_⟩
  · rw [List.length_take]; omega
  · have hn : n < mu.length := by
      have := (List.getElem?_eq_some_iff.mp q).1
      rw [List.length_take] at this; omega
    rw [List.getElem?_take_of_lt hn] at q
    obtain ⟨a, h1, h2⟩ := s.obj n mo q
    rw [List.getElem?_append_left hn] at h1
    exact ⟨a, h1, h2.less sub⟩
theorem nodup_late {t : List Addr} {n : Nat} {a : Addr} (nd : (mu ++ t).Nodup) (h : (mu ++ t)[n]? = some a) (hn : mu.length ≤ n) : a ∉ mu := fun z => by
  rw [List.getElem?_append_right hn] at h
  exact (List.nodup_append.mp nd).2.2 a z a (List.mem_of_getElem? h) rfl
theorem leave_rt {d : Ev.D} {v : V} {W : WX} {Q : VK} (hm : mu.length = M.length) (l : Le H mu H' mu') (p : Post g H H' mu' M' d v) (h : PostO g H mu [] W (leave M.length (.ok (.rt d) M')) Q) : Q v H' := by
  rw [← hm] at h
  cases d with
  | p q =>
    obtain ⟨p1, p2⟩ := p
    exact h v H' mu l.cut ⟨p1.cut l, Rep.less (fun a z => by obtain ⟨t, rfl⟩ := l.pre; exact List.mem_append_left _ z) p2⟩
  | nw ps =>
    obtain ⟨p, vs, rfl, h0, h1, h2, h3, h4⟩ := p
    have sub : ∀ a, a ∈ mu ++ [p] → a ∈ mu' ++ [p] := fun a q => by
      obtain ⟨t, rfl⟩ := l.pre
      rcases List.mem_append.mp q with q | q
      · exact List.mem_append_left _ (List.mem_append_left _ q)
      · exact List.mem_append_right _ q
    have s4 := h4.less (e' := mu' ++ [p]) (fun _ q => q) h4.sub
    refine h _ H' mu l.cut ⟨p, vs, rfl, h0, fun z => h1 (by obtain ⟨t, rfl⟩ := l.pre; exact List.mem_append_left _ z), h2, h3.less sub, ?_⟩
    obtain ⟨t, rfl⟩ := l.pre
    have hl := h4.len
    rw [List.length_append] at hl
    refine ⟨h4.tab, ?_, (List.nodup_append.mp h4.nd).1, fun a q => List.mem_append_left _ q, fun n mo q => ?_⟩
    · rw [List.length_take]; omega
    · have hn : n < mu.length := by
        have := (List.getElem?_eq_some_iff.mp q).1
        rw [List.length_take] at this; omega
      rw [List.getElem?_take_of_lt hn] at q
      obtain ⟨a, k1, k2⟩ := h4.obj n mo q
      rw [List.getElem?_append_left hn] at k1
      exact ⟨a, k1, k2.less sub⟩
  | loc n =>
    obtain ⟨p1, a, p2, rfl⟩ := p
    have h : PostO g H mu [] W (if n < mu.length then .ok (.loc n) (M'.take mu.length) else match M'[n]? with
      | some (.lst ps) => .ok (.nw ps) (M'.take mu.length)
      | some (.ins c fs) => .ok (.loc mu.length) (M'.take mu.length ++ [.ins c fs])
      | none => .no) Q := h
    obtain ⟨t, rfl⟩ := l.pre
    split at h
    · rename_i hn
      refine h _ H' mu l.cut ⟨p1.cut l, a, ?_, rfl⟩
      rw [List.getElem?_append_left hn] at p2
      exact p2
    · rename_i hn
      have hna := nodup_late p1.nd p2 (by omega)
      have ha0 : NT H a := by
        rcases l.new a (List.mem_of_getElem? p2) with z | z
        · exact absurd z hna
        · exact z
      split at h
      · rename_i ps e
        obtain ⟨b, k1, vs, k2, k3⟩ := p1.obj n _ e
        rw [p2] at k1; cases k1
        refine h _ H' mu l.cut ⟨a, vs, rfl, ha0, hna, k2, k3.less (fun b q => ?_), p1.cutx l (List.mem_of_getElem? p2) hna⟩
        rcases List.mem_append.mp q with q | q
        · exact List.mem_append_left _ q
        · rw [List.mem_singleton.mp q]; exact List.mem_of_getElem? p2
      · rename_i c fs e
        obtain ⟨b, k1, k2⟩ := p1.obj n _ e
        rw [p2] at k1; cases k1
        have sub : ∀ b, b ∈ mu ++ [a] → b ∈ mu ++ t := fun b q => by
          rcases List.mem_append.mp q with q | q
          · exact List.mem_append_left _ q
          · rw [List.mem_singleton.mp q]; exact List.mem_of_getElem? p2
        refine h _ H' (mu ++ [a]) (le_push l.cut ha0) ⟨(p1.cutx l (List.mem_of_getElem? p2) hna).push hna (k2.less sub), a, ?_, rfl⟩
        rw [List.getElem?_append_right (Nat.le_refl _), Nat.sub_self]
        rfl
      · exact h.elim
theorem slots_start {ds : List Ev.D} {vs : List V} (N : List Str) (r : RepDL g H mu ds vs) : SlOk g H mu (ds.map some ++ List.replicate (N.length - ds.length) none) (L2.start N vs) := by
  have hl := r.length
  unfold L2.start
  refine ⟨by simp [hl], fun i d h => ?_⟩
  have hi : i < ds.length := by
    by_cases z : i < ds.length
    · exact z
    · rw [List.getElem?_append_right (by simpa using z)] at h
      rw [List.getElem?_replicate] at h
      split at h <;> cases h
  rw [List.getElem?_append_left (by simpa using hi), List.getElem?_map] at h
  have hd : ds[i]? = some d := by
    cases e : ds[i]? with
    | none => rw [e] at h; cases h
    | some a => rw [e] at h; cases h; rfl
  have key : ∀ {ds : List Ev.D} {vs : List V} {i : Nat} {d : Ev.D}, RepDL g H mu ds vs → ds[i]? = some d → ∃ v, vs[i]? = some v ∧ RepD g H mu d v := by
    intro ds
    induction ds with
    | nil => intro vs i d _ h; simp at h
    | cons e r ih =>
      intro vs i d ⟨v, r', e1, h1, h2⟩ h
      subst e1
      cases i with
      | zero => simp at h; subst h; exact ⟨v, rfl, h1⟩
      | succ i =>
        obtain ⟨w, k1, k2⟩ := ih (i := i) h2 (by simpa using h)
        exact ⟨w, by simpa using k1, k2⟩
  obtain ⟨v, k1, k2⟩ := key r hd
  exact ⟨v, by rw [List.getElem?_append_left (by simp [hl]; omega), List.getElem?_map, k1]; rfl, k2⟩
end
section
variable {X : Cx} {x : Str} {e : Expr} {es : List Expr} {fs : EvA} {F : Fn} {n k : Nat} {p pos : Pos}
theorem call_of {g : Mg} {W : WX} {τ : L2.St} {H : Hp} {Q : VK} (h : tE g W (eCall n F fs) τ H Q) : tCallS (spOf g n F) (WE W) (tAr g W fs) τ H Q := by
  obtain ⟨σ, M, mu, s, st, h⟩ := h
  refine ⟨σ, M, mu, s, st, (PostA.bind h).mono fun vs H1 ⟨mu1, ds, M1, l1, st1, r1, h1⟩ => ?_⟩
  split at h1
  · rename_i hl
    refine ⟨ds, M1, mu1, hl, r1, st1, ?_⟩
    cases e : F ds M1 with
    | ok d M2 => rw [e] at h1; exact h1
    | er c m M2 => rw [e] at h1; exact h1
    | no => rw [e] at h1; exact h1
  · exact h1.elim
theorem pv_call (hF : FnG X.prog X.w X.K X.mg X.base k x n F) (hr : Room k X.A) (hg : Gl X x) (ha : PAv X (e :: es) fs) (hdb : (x == ("__debug__" : Str)) = false)
    (he : starEach (e :: es) X.env = (false, eval e X.env) :: starEach es X.env) (hpl : (backTo pos (starEach es X.env)).any (·.1) = false) : PEv X (.Call (.Name x p) (e :: es) [] pos) (eCall n F fs) := fun W tk => by
  obtain ⟨f, fd, ps, h1, h2, h3, h4⟩ := hF
  exact PE.imp (pe_callS h1 hr hg h2 h3 h4 (fun τ => L2N.passAt tk τ) (ha W tk) hdb he hpl) fun τ H Q h => call_of h
/-- f() -/
theorem pv_call0 (hF : FnG X.prog X.w X.K X.mg X.base k x 0 F) (hr : Room k X.A) (hg : Gl X x) (hdb : (x == ("__debug__" : Str)) = false) : PEv X (.Call (.Name x p) [] [] pos) (eCall 0 F aNil) := fun W tk => by
  obtain ⟨f, fd, ps, h1, h2, h3, h4⟩ := hF
  refine ⟨fun pins s τ H Q I h => ?_⟩
  have h := call_of h
  refine wpAny_Call_Name_kw (ld_glob I hg h2 ?_ hdb)
  refine PySem.W.callWith_K0 I.kIn h3 ?_
  obtain ⟨σ, M, mu, s, st, h⟩ := h
  exact run_fnS h1 hr h4 (L2N.passAt tk τ) I .nil (h [] H mu (Le.refl _ _) st rfl)
/-- a def, by its body -/
theorem fn_body {P : Program} {w : World} {K : PySem.W.Frag} {mg : Str → Option Value} {base : Heap} {k : Nat} {f : Addr} {name qual : Str} {params : Arguments} {body : List Stmt} {scope : Scope} {dV kV doc pm cdv ct oc : Value} {an od : Option Addr}
    {osl : Array (Option Value)} {N ps : List Str} {b : EvS} (lk : K.lookup f = some ⟨oc, od, .func (PySem.W.fnOf name qual params body scope dV kV doc pm an cdv ct), osl⟩) (hcd : PySem.W.codeIn K cdv qual = true) (S : FnScope N ps scope)
    (hbody : ∀ (A : Around) (outer : List Env) (s : Shared) (H : Hp) (E : XK), Room k (A.deeper (envOfC qual scope s.heap.objs.size f cdv)) → PSsv (cxOf (L2N.CX P w) P w K mg base N qual scope f cdv A outer s H E) body b) :
    FnOk P w K mg base (L2N.CX P w) (k + 1) f (PySem.W.fnOf name qual params body scope dV kV doc pm an cdv ct) ps (spOf ⟨mg, K⟩ ps.length (fnB N.length b)) := by
  refine fn_of lk hcd S (fun vs H Q E ⟨ds, M, mu, hl, r, _⟩ => by rw [r.length, hl]) fun A outer s H vs Q E hr ⟨ds, M, mu, hl, r, st, h⟩ => ?_
  refine ⟨_, hbody A outer s H E hr (fun cls d _ H => E cls d H) (L2N.takes_of rfl rfl rfl rfl), ?_⟩
  refine ⟨ds.map some ++ List.replicate (N.length - ds.length) none, M, mu, slots_start N r, st, ?_⟩
  have hm := st.len
  unfold fnB at h
  cases e : b (ds.map some ++ List.replicate (N.length - ds.length) none) M with
  | ok fl M' =>
    rw [e] at h
    cases fl with
    | nx σ' => exact fun τ' H' mu' l s st' => leave_rt (d := .p .non) hm l ⟨st', by show Rep _ _ _ _ _; unfold Rep; rfl⟩ h
    | rt d => exact fun v H' mu' l p => leave_rt hm l p h
    | bk _ => exact h.elim
    | ct _ => exact h.elim
  | er c n σ' M' =>
    rw [e] at h
    intro cls dd τ' H' mu' l s st' x
    refine h cls dd H' mu l.cut ?_ x
    rw [← hm]
    exact st'.cut l
  | no => rw [e] at h; exact h.elim
end
end Ev

set_option Elab.async false
set_option linter.all false
set_option maxRecDepth 100000
set_option maxHeartbeats 4000000
/-! Core7: targets, iterators, for, while, comprehensions. -/
namespace Ev
open PySem PySem.Spec PyProof.Rows L2

/-! ### targets -/
inductive Tg where
  | nm (i : Nat) | tu (ts : List Tg)
mutual
def tgA : Tg → P → Fr → Option Fr
  | .nm i, p, σ => some (σ.set i (some (.p p)))
  | .tu ts, .tup ps, σ => if ps.length = ts.length then tgL ts ps σ else none
  | .tu _, _, _ => none
def tgL : List Tg → List P → Fr → Option Fr
  | [], [], σ => some σ
  | t :: ts, p :: ps, σ => match tgA t p σ with
    | some σ1 => tgL ts ps σ1
    | none => none
  | _, _, _ => none
end
mutual
def gT (K : PySem.W.Frag) : Tg → TG
  | .nm i => gName i
  | .tu ts => gTup K ts.length (gTs K ts)
def gTs (K : PySem.W.Frag) : List Tg → TGs
  | [] => gNil
  | t :: ts => gCons (gT K t) (gTs K ts)
end
mutual
def tgS : Tg → List Nat
  | .nm i => [i]
  | .tu ts => tgSs ts
def tgSs : List Tg → List Nat
  | [] => []
  | t :: ts => tgS t ++ tgSs ts
end
theorem wipe_set {τ : L2.St} {i : Nat} {v : Option V} : ∀ {vs : List Nat}, i ∈ vs → wipe (τ.set i v) vs = wipe τ vs
  | a :: vs, h => by
    unfold wipe
    by_cases hi : i ∈ vs
    · rw [wipe_set hi]
    · have e : a = i := by
        rcases List.mem_cons.mp h with z | z
        · exact z.symm
        · exact absurd z hi
      subst e
      have key : ∀ {vs : List Nat} {τ : L2.St}, a ∉ vs → wipe (τ.set a v) vs = (wipe τ vs).set a v := by
        intro vs
        induction vs with
        | nil => intro τ _; rfl
        | cons b r ih =>
          intro τ h
          have h1 : a ≠ b := fun z => h (by rw [z]; exact List.mem_cons_self)
          have h2 : a ∉ r := fun z => h (List.mem_cons_of_mem _ z)
          unfold wipe
          rw [ih h2, List.set_comm _ _ h1]
      rw [key hi, List.set_set]
section
variable {g : Mg} {K : PySem.W.Frag} {H : Hp} {mu : List Addr}
mutual
theorem gT_ok : ∀ {t : Tg} {p : P} {v : V} {σ σ1 : Fr} {τ : L2.St} {Q : L2.St → Hp → Prop}, Rep g H mu p v → SlOk g H mu σ τ → tgA t p σ = some σ1 →
    (∀ τ1, SlOk g H mu σ1 τ1 → (∀ vs, (∀ i ∈ tgS t, i ∈ vs) → wipe τ1 vs = wipe τ vs) → Q τ1 H) → gT K t v τ H Q
  | .nm i, p, v, σ, σ1, τ, Q, r, s, e, q => by
    unfold tgA at e
    cases e
    unfold gT
    exact q _ (s.set i (d := .p p) r) fun vs h => wipe_set (h i (by unfold tgS; simp))
  | .tu ts, .tup ps, v, σ, σ1, τ, Q, r, s, e, q => by
    unfold tgA at e
    split at e
    · rename_i hl
      unfold gT
      unfold Rep at r
      obtain ⟨a, vs, rfl, _, h1, h2⟩ := r
      refine ⟨a, vs, rfl, .of h1, by rw [h2.length, hl], gTs_ok h2 s e fun τ1 s1 h => q τ1 s1 fun vs hv => h vs fun i hi => hv i (by unfold tgS; exact hi)⟩
    · cases e
  | .tu _, .non, _, _, _, _, _, _, _, e, _ => by unfold tgA at e; cases e
  | .tu _, .bl _, _, _, _, _, _, _, _, e, _ => by unfold tgA at e; cases e
  | .tu _, .int _, _, _, _, _, _, _, _, e, _ => by unfold tgA at e; cases e
  | .tu _, .str _, _, _, _, _, _, _, _, e, _ => by unfold tgA at e; cases e
  | .tu _, .lst _, _, _, _, _, _, _, _, e, _ => by unfold tgA at e; cases e
  | .tu _, .fn _, _, _, _, _, _, _, _, e, _ => by unfold tgA at e; cases e
  | .tu _, .scr _, _, _, _, _, _, _, _, e, _ => by unfold tgA at e; cases e
  | .tu _, .adr _, _, _, _, _, _, _, _, e, _ => by unfold tgA at e; cases e
theorem gTs_ok : ∀ {ts : List Tg} {ps : List P} {vs : List V} {σ σ1 : Fr} {τ : L2.St} {Q : L2.St → Hp → Prop}, RepL g H mu ps vs → SlOk g H mu σ τ → tgL ts ps σ = some σ1 →
    (∀ τ1, SlOk g H mu σ1 τ1 → (∀ vs, (∀ i ∈ tgSs ts, i ∈ vs) → wipe τ1 vs = wipe τ vs) → Q τ1 H) → gTs K ts vs τ H Q
  | [], [], vs, σ, σ1, τ, Q, r, s, e, q => by
    unfold tgL at e
    cases e
    unfold gTs
    exact ⟨r.nil_inv, q τ s fun _ _ => rfl⟩
  | t :: ts, p :: ps, vs, σ, σ1, τ, Q, r, s, e, q => by
    unfold tgL at e
    split at e
    · rename_i σ2 e1
      obtain ⟨v, r', rfl, h1, h2⟩ := r.cons_inv
      unfold gTs
      refine ⟨v, r', rfl, gT_ok h1 s e1 fun τ1 s1 w1 => gTs_ok h2 s1 e fun τ2 s2 w2 => q τ2 s2 fun vs hv => ?_⟩
      rw [w2 vs fun i hi => hv i (by unfold tgSs; exact List.mem_append_right _ hi), w1 vs fun i hi => hv i (by unfold tgSs; exact List.mem_append_left _ hi)]
    · cases e
  | [], _ :: _, _, _, _, _, _, _, _, e, _ => by unfold tgL at e; cases e
  | _ :: _, [], _, _, _, _, _, _, _, e, _ => by unfold tgL at e; cases e
end
end
def PGv (X : Cx) (e : Expr) (t : Tg) : Prop := PG X e (gT X.K t)
def PGsv (X : Cx) (e : List Expr) (t : List Tg) : Prop := PGs X e (gTs X.K t)
section
variable {X : Cx} {e : Expr} {es : List Expr} {t : Tg} {ts : List Tg} {pos : Pos}
theorem pgv_name {i : Nat} {x : Str} (hN : X.N.Nodup) (hi : X.N[i]? = some x) (hx : Loc X.env.scope x) (hf : X.fn x = true ∨ X.env.scope.names.lookup x = some .local) : PGv X (.Name x pos) (.nm i) := by
  unfold PGv gT
  exact pg_name hN hi hx hf
theorem pgsv_nil : PGsv X [] [] := by unfold PGsv gTs; exact pgs_nil
theorem pgsv_cons (h1 : PGv X e t) (h2 : PGsv X es ts) (hs : (assignEach (e :: es) X.env).map (·.2) = assign e X.env :: (assignEach es X.env).map (·.2)) : PGsv X (e :: es) (t :: ts) := by
  unfold PGsv gTs
  exact pgs_cons h1 h2 hs
theorem pgv_tup {k : Nat} (hc : X.calm = true) (h : PGsv X es ts) (hn : (assignEach es X.env).length = ts.length) (hst : (assignEach es X.env).findIdx? (·.1) = none) : PGv X (.Tuple es k pos) (.tu ts) := by
  unfold PGv gT
  exact pg_tup hc h hn hst
end
/-- a, b = e -/
def sUnp (t : Tg) (f : EvD) : EvS := fun σ M => (f σ M).toS σ fun d M1 => match d with
  | .p p => (match tgA t p σ with
    | some σ1 => .ok (.nx σ1) M1
    | none => .no)
  | _ => .no
theorem psv_unp {X : Cx} {tg e : Expr} {t : Tg} {f : EvD} {pos : Pos} (he : PEv X e f) (hg : PGv X tg t) (hs : swapsWithSole [tg] e pos.line X.env = pure false) (hw : swappedStores [tg] e X.env = pure none)
    (h1 : (assignEach [tg] X.env).map (·.2) = [assign tg X.env]) : PSv X (.Assign [tg] e pos) (sUnp t f) := fun W tk =>
  PS.imp (ps_asg (he W tk) hg hs hw h1) fun D τ H ⟨σ, M, mu, s, st, h⟩ => by
    refine ⟨σ, M, mu, s, st, (PostO.bindS s h).mono fun v H1 ⟨mu1, d, M1, l1, st1, r1, h1⟩ => ?_⟩
    try dsimp only at h1
    split at h1
    · split at h1
      · rename_i e1
        exact gT_ok r1 (s.mono l1) e1 fun τ1 s1 _ => h1 τ1 H1 mu1 (Le.refl _ _) s1 st1
      · exact h1.elim
    · exact h1.elim

/-! ### what is walked -/
abbrev EvI := Fr → Sto → Out (List P)
/-- J gives the items ps, as long as what is lasting lasts -/
def ItIs (g : Mg) (J : It) (ps : List P) (H : Hp) (mu : List Addr) : Prop :=
  ∀ H2 mu2, Le H mu H2 mu2 → (∀ T, H2 T = none → T ∉ mu2) → (∀ i, i < ps.length → J.go i H2) ∧ J.stop ps.length H2 ∧
    ∀ i x H3, i < ps.length → J.yld i H2 x H3 → (H3 = H2 ∨ ∃ T o, H2 T = none ∧ H3 = upd H2 T o) ∧ ∀ p, ps[i]? = some p → (∀ a u, H2 a = some u → H3 a = some u) → Rep g H3 mu2 p x
def PostI (g : Mg) (H : Hp) (mu : List Addr) (τ : L2.St) (W : WX) (o : Out (List P)) (R : It → Hp → Prop) : Prop :=
  match o with
  | .ok ps M' => ∀ J H' mu', Le H mu H' mu' → StoOk g H' mu' mu' M' → ItIs g J ps H' mu' → R J H'
  | .er c n M' => ∀ cls dd H' mu', Le H mu H' mu' → StoOk g H' mu' mu' M' → ExcR g c n cls dd H' → W cls dd τ H'
  | .no => False
def tI (g : Mg) (W : WX) (f : EvI) : TI := fun τ H R => ∃ σ M mu, SlOk g H mu σ τ ∧ StoOk g H mu mu M ∧ PostI g H mu τ W (f σ M) R
def PIv (X : Cx) (tg e : Expr) (f : EvI) : Prop := ∀ W, L2N.Takes X W → PI X tg e (tI X.g W f)
theorem PI.imp {X : Cx} {tg e : Expr} {t t' : TI} (h : PI X tg e t) (i : ∀ τ H Q, t' τ H Q → t τ H Q) : PI X tg e t' := ⟨fun pins s σ H Q I q => h.run pins s σ H Q I (i σ H Q q)⟩
def chars (s : Str) : List P := s.cps.toList.map fun c => .str ⟨#[c]⟩
def iOf (f : EvD) : EvI := fun σ M => (f σ M).bind fun d M1 => match d with
  | .p (.lst ps) => .ok ps M1
  | .p (.tup ps) => .ok ps M1
  | .p (.str s) => .ok (chars s) M1
  | .nw ps => .ok ps M1
  | _ => .no
section
variable {g : Mg} {H H' : Hp} {mu mu' : List Addr} {τ : L2.St} {W : WX} {R : It → Hp → Prop}
theorem PostI.shift {o : Out (List P)} (l : Le H mu H' mu') (h : PostI g H mu τ W o R) : PostI g H' mu' τ W o R := by
  cases o with
  | ok d M => exact fun J H2 mu2 l2 p => h J H2 mu2 (l.trans l2) p
  | er c n M => exact fun cls dd H2 mu2 l2 s x => h cls dd H2 mu2 (l.trans l2) s x
  | no => exact h
theorem PostO.bindI {o : Out Ev.D} {k : Ev.D → Sto → Out (List P)} (h : PostI g H mu τ W (o.bind k) R) : PostO g H mu τ W o (Then g H mu fun d M' H' mu' => PostI g H' mu' τ W (k d M') R) := by
  cases o with
  | ok d M => exact fun v H2 mu2 l2 p => ⟨mu2, d, M, l2, p.val.1, p.val.2, PostI.shift l2 h⟩
  | er c n M => exact h
  | no => exact h.elim
theorem PostA.bindI {o : Out (List Ev.D)} {k : List Ev.D → Sto → Out (List P)} (h : PostI g H mu τ W (o.bind k) R) : PostA g H mu τ W o (fun vs H' => ∃ mu' ds M', Le H mu H' mu' ∧ StoOk g H' mu' mu' M' ∧ RepDL g H' mu' ds vs ∧ PostI g H' mu' τ W (k ds M') R) := by
  cases o with
  | ok ds M => exact fun vs H2 mu2 l2 s r => ⟨mu2, ds, M, l2, s, r, PostI.shift l2 h⟩
  | er c n M => exact h
  | no => exact h.elim
theorem itis_list {K : PySem.W.Frag} {a : Addr} {vs : List V} {ps : List P} (hn : a ∉ mu) (h : H a = some (.lst vs)) (r : RepL g H mu ps vs) : ItIs g (Itl K a) ps H mu := fun H2 mu2 l _ => by
  have h2 : SqL K H2 a vs := .of (l.keep a _ hn (by intro ps z; cases z) h)
  have hl := r.length
  have r2 := r.mono l
  refine ⟨fun i hi => ⟨vs, vs[i]'(by omega), h2, by simp⟩, ⟨vs, h2, by omega⟩, fun i x H3 hi y => ⟨.inl y.1, fun p hp k => ?_⟩⟩
  obtain ⟨v, e1, e2⟩ := r2.get hp
  have := y.2 vs h2
  rw [e1] at this
  cases this
  rw [y.1]; exact e2
theorem itis_tup {K : PySem.W.Frag} {a : Addr} {vs : List V} {ps : List P} (hn : a ∉ mu) (h : H a = some (.tup vs)) (r : RepL g H mu ps vs) : ItIs g (Itt K a) ps H mu := fun H2 mu2 l _ => by
  have h2 : SqT K H2 a vs := .of (l.keep a _ hn (by intro ps z; cases z) h)
  have hl := r.length
  have r2 := r.mono l
  refine ⟨fun i hi => ⟨vs, vs[i]'(by omega), h2, by simp⟩, ⟨vs, h2, by omega⟩, fun i x H3 hi y => ⟨.inl y.1, fun p hp k => ?_⟩⟩
  obtain ⟨v, e1, e2⟩ := r2.get hp
  have := y.2 vs h2
  rw [e1] at this
  cases this
  rw [y.1]; exact e2
theorem itis_str {s : Str} : ItIs g (Its s) (chars s) H mu := fun H2 mu2 l _ => by
  have hl : (chars s).length = s.cps.size := by simp [chars]
  refine ⟨fun i hi => by rw [hl] at hi; exact hi, by rw [hl]; exact Nat.le_refl _, fun i x H3 hi y => ⟨.inl y.1, fun p hp k => ?_⟩⟩
  obtain ⟨_, c, e1, e2⟩ := y
  subst e2
  simp only [chars, List.getElem?_map, Array.getElem?_toList, e1, Option.map_some, Option.some.injEq] at hp
  subst hp
  unfold Rep; rfl
def rgs (lo : Int) (n : Nat) : List P := (List.range n).map fun i : Nat => P.int (lo + (i : Int))
theorem itis_range {lo : Int} {n : Nat} : ItIs g (Itr lo n) (rgs lo n) H mu := fun H2 mu2 l _ => by
  have hl : (rgs lo n).length = n := by simp [rgs]
  refine ⟨fun i hi => by rw [hl] at hi; exact hi, by rw [hl]; exact Nat.le_refl _, fun i x H3 hi y => ⟨.inl y.1, fun p hp k => ?_⟩⟩
  obtain ⟨_, e2⟩ := y
  subst e2
  rw [hl] at hi
  have e : (rgs lo n)[i]? = some (P.int (lo + (i : Int))) := by
    unfold rgs
    rw [List.getElem?_map, List.getElem?_range hi]; rfl
  rw [e] at hp
  cases hp
  unfold Rep; rfl
end
section
variable {X : Cx} {e e2 tg : Expr} {es : List Expr} {f : EvD} {fs : EvA} {p pos : Pos}
/-- an expression of data is walked -/
theorem piv_of (he : PEv X e f) : PIv X tg e (iOf f) := fun W tk => by
  refine ⟨fun pins s τ H R I h => ?_⟩
  -- by the kind of what the expression gives: the three walks are one term
  have key : tE X.g W f τ H (fun x H1 => (∃ a, x = .ref a ∧ (∃ xs, SqL X.K H1 a xs) ∧ R (Itl X.K a) H1) ∨ (∃ a, x = .ref a ∧ (∃ xs, SqT X.K H1 a xs) ∧ R (Itt X.K a) H1) ∨ ∃ z, x = .str z ∧ R (Its z) H1) := by
    obtain ⟨σ, M, mu, s, st, h⟩ := h
    refine ⟨σ, M, mu, s, st, (PostO.bindI h).mono fun v H1 ⟨mu1, d, M1, l1, st1, r1, h1⟩ => ?_⟩
    try dsimp only at h1
    split at h1
    · rename_i ps
      have r1 : Rep _ _ _ _ _ := r1
      unfold Rep at r1
      obtain ⟨a, vs, rfl, k1, k2, k3⟩ := r1
      exact .inl ⟨a, rfl, ⟨vs, .of k2⟩, h1 _ H1 mu1 (Le.refl _ _) st1 (itis_list k1 k2 k3)⟩
    · rename_i ps
      have r1 : Rep _ _ _ _ _ := r1
      unfold Rep at r1
      obtain ⟨a, vs, rfl, k1, k2, k3⟩ := r1
      exact .inr (.inl ⟨a, rfl, ⟨vs, .of k2⟩, h1 _ H1 mu1 (Le.refl _ _) st1 (itis_tup k1 k2 k3)⟩)
    · rename_i z
      have r1 : Rep _ _ _ _ _ := r1
      unfold Rep at r1
      exact .inr (.inr ⟨z, r1, h1 _ H1 mu1 (Le.refl _ _) st1 itis_str⟩)
    · rename_i ps
      have r1 : Rep _ _ _ _ _ := r1
      unfold Rep at r1
      obtain ⟨a, vs, rfl, k1, k2, k3⟩ := r1
      exact .inl ⟨a, rfl, ⟨vs, .of k2⟩, h1 _ H1 mu1 (Le.refl _ _) st1 (itis_list k1 k2 k3)⟩
    · exact h1.elim
  -- each walk's own proof, behind the expression
  refine thn ((he W tk).run pins s τ H _ I key) fun v s1 ⟨x, H1, I1, r1, q1⟩ => ?_
  rcases q1 with ⟨a, rfl, ⟨xs, hq⟩, q⟩ | ⟨a, rfl, ⟨xs, hq⟩, q⟩ | ⟨z, rfl, q⟩
  · cases r1
    obtain ⟨its, rv, p, hz⟩ := I1.list hq
    refine wpAny_pyIter_list p.isList ?_
    refine ⟨s1.heap.objs.size, [s1.heap.objs.size], _, _, H1, rfl, I1.kept (t' := s1.toks) fun b o e => Heap.get?_push_of_some _ e, turn_list a _, ⟨_, Heap.get?_push_size _ rfl, rfl, rfl⟩, fun b hb => ?_, q⟩
    have e : b = s1.heap.objs.size := by simpa using hb
    subst e
    exact I1.fpOk (Nat.le_refl _) (I1.hok.fresh (Nat.le_refl _))
  · cases r1
    obtain ⟨its, rv, p, hz⟩ := I1.tuple hq
    refine wpAny_pyIter_tuple (show s1.heap.IsTuple a its.toArray from p) ?_
    refine ⟨s1.heap.objs.size, [s1.heap.objs.size], _, _, H1, rfl, I1.kept (t' := s1.toks) fun b o e => Heap.get?_push_of_some _ e, turn_tuple a _, ⟨_, Heap.get?_push_size _ rfl, rfl, rfl⟩, fun b hb => ?_, q⟩
    have e : b = s1.heap.objs.size := by simpa using hb
    subst e
    exact I1.fpOk (Nat.le_refl _) (I1.hok.fresh (Nat.le_refl _))
  · obtain ⟨t, rfl⟩ := r1
    cases ha : z.cps.all (· < 128)
    · exact wpAny_pyIter_wide ha (pi_one (tk := s1.toks) I1 _ (turn_str _ z t "str_iterator" (.inr rfl)) ⟨_, Heap.get?_push_size _ rfl, rfl, rfl⟩ q)
    · exact wpAny_pyIter_ascii ha (pi_one (tk := s1.toks) I1 _ (turn_str _ z t "str_ascii_iterator" (.inl rfl)) ⟨_, Heap.get?_push_size _ rfl, rfl, rfl⟩ q)
def rgOk (j : Int) : Bool := decide (-(2 ^ 62) ≤ j) && decide (j < 2 ^ 62)
theorem rgOk_ok {j : Int} (h : rgOk j = true) : -(2 ^ 62) ≤ j ∧ j < 2 ^ 62 := by
  unfold rgOk at h
  rw [Bool.and_eq_true, decide_eq_true_eq, decide_eq_true_eq] at h
  exact h
def iRange1 (fs : EvA) : EvI := fun σ M => (fs σ M).bind fun ds M1 => match ds with
  | [.p (.int j)] => if rgOk j = true then .ok (rgs 0 j.toNat) M1 else .no
  | _ => .no
def iRange2 (fs : EvA) : EvI := fun σ M => (fs σ M).bind fun ds M1 => match ds with
  | [.p (.int i), .p (.int j)] => if rgOk i = true ∧ rgOk j = true then .ok (rgs i (j - i).toNat) M1 else .no
  | _ => .no
theorem rep_int_dl {g : Mg} {H : Hp} {mu : List Addr} {i : Int} {v : V} (r : RepD g H mu (.p (.int i)) v) : v = .int i := by
  have z : Rep _ _ _ _ _ := r
  unfold Rep at z; exact z
theorem piv_range1 (hg : Gl X "range") (hm : X.mg "range" = none) (ha : PAv X [e] fs) (hs : starEach [e] X.env = [(false, eval e X.env)]) : PIv X tg (.Call (.Name "range" p) [e] [] pos) (iRange1 fs) := fun W tk => by
  refine PI.imp (pi_range1 hg hm (ha W tk) hs) fun τ H R ⟨σ, M, mu, s, st, h⟩ => ⟨σ, M, mu, s, st, ?_⟩
  refine PostA.mono (PostA.bindI h) fun vs H1 ⟨mu1, ds, M1, l1, st1, r1, h1⟩ => ?_
  try dsimp only at h1
  split at h1
  · rename_i j
    split at h1
    · rename_i hr
      obtain ⟨v, r, rfl, k1, k2⟩ := r1
      rw [show r = [] from k2, rep_int_dl k1]
      exact ⟨j, rfl, (rgOk_ok hr).1, (rgOk_ok hr).2, h1 _ H1 mu1 (Le.refl _ _) st1 itis_range⟩
    · exact h1.elim
  · exact h1.elim
theorem piv_range2 (hg : Gl X "range") (hm : X.mg "range" = none) (ha : PAv X [e, e2] fs) (hs : starEach [e, e2] X.env = [(false, eval e X.env), (false, eval e2 X.env)]) (hs2 : starEach [e2] X.env = [(false, eval e2 X.env)]) : PIv X tg (.Call (.Name "range" p) [e, e2] [] pos) (iRange2 fs) := fun W tk => by
  refine PI.imp (pi_range2 hg hm (ha W tk) hs hs2) fun τ H R ⟨σ, M, mu, s, st, h⟩ => ⟨σ, M, mu, s, st, ?_⟩
  refine PostA.mono (PostA.bindI h) fun vs H1 ⟨mu1, ds, M1, l1, st1, r1, h1⟩ => ?_
  try dsimp only at h1
  split at h1
  · rename_i i j
    split at h1
    · rename_i hr
      obtain ⟨v, r, rfl, k1, w, r', k3, k2, k4⟩ := r1
      subst k3
      rw [show r' = [] from k4, rep_int_dl k1, rep_int_dl k2]
      exact ⟨i, j, rfl, ⟨(rgOk_ok hr.1).1, (rgOk_ok hr.1).2, (rgOk_ok hr.2).1, (rgOk_ok hr.2).2⟩, h1 _ H1 mu1 (Le.refl _ _) st1 itis_range⟩
    · exact h1.elim
  · exact h1.elim
end

/-! ### for -/
def forL (t : Tg) (body : EvS) : List P → Fr → Sto → OutS
  | [], σ, M => .ok (.nx σ) M
  | p :: ps, σ, M => match tgA t p σ with
    | none => .no
    | some σ1 => match body σ1 M with
      | .ok (.nx σ2) M2 => forL t body ps σ2 M2
      | .ok (.ct σ2) M2 => forL t body ps σ2 M2
      | .ok (.bk σ2) M2 => .ok (.nx σ2) M2
      | .ok (.rt d) M2 => .ok (.rt d) M2
      | .er c n σ2 M2 => .er c n σ2 M2
      | .no => .no
def sFor (t : Tg) (fi : EvI) (body : EvS) : EvS := fun σ M => (fi σ M).toS σ fun ps M1 => forL t body ps σ M1
theorem PostI.bindS {g : Mg} {H : Hp} {mu : List Addr} {τ : L2.St} {W : WX} {D : Ends} {σ : Fr} {o : Out (List P)} {k : List P → Sto → OutS} (s : SlOk g H mu σ τ) (h : PostS g H mu W (o.toS σ k) D) :
    PostI g H mu τ W o (fun J H' => ∃ mu' ps M', Le H mu H' mu' ∧ StoOk g H' mu' mu' M' ∧ ItIs g J ps H' mu' ∧ PostS g H' mu' W (k ps M') D) := by
  cases o with
  | ok ds M => exact fun J H2 mu2 l2 st r => ⟨mu2, ds, M, l2, st, r, PostS.shift l2 h⟩
  | er c n M => exact fun cls dd H2 mu2 l2 st x => h cls dd τ H2 mu2 l2 (s.mono l2) st x
  | no => exact h.elim
theorem ItIs.shift {g : Mg} {J : It} {ps : List P} {H H' : Hp} {mu mu' : List Addr} (i : ItIs g J ps H mu) (l : Le H mu H' mu') : ItIs g J ps H' mu' := fun H2 mu2 l2 => i H2 mu2 (l.trans l2)
theorem le_yld {H2 H3 : Hp} {mu : List Addr} (h : H3 = H2 ∨ ∃ T o, H2 T = none ∧ H3 = upd H2 T o) : Le H2 mu H3 mu := by
  rcases h with rfl | ⟨T, o, h, rfl⟩
  · exact Le.refl _ _
  · exact Le.upd h
theorem sto_yld {g : Mg} {H2 H3 : Hp} {mu : List Addr} {M : Sto} (h : H3 = H2 ∨ ∃ T o, H2 T = none ∧ H3 = upd H2 T o) (st : StoOk g H2 mu mu M) : StoOk g H3 mu mu M := by
  rcases h with rfl | ⟨T, o, h, rfl⟩
  · exact st
  · exact st.upd h
theorem has_yld {H2 H3 : Hp} (h : H3 = H2 ∨ ∃ T o, H2 T = none ∧ H3 = upd H2 T o) : ∀ a u, H2 a = some u → H3 a = some u := by
  rcases h with rfl | ⟨T, o, h, rfl⟩
  · exact fun _ _ q => q
  · exact fun a u q => by rw [upd_ne (ne_of_none q h)]; exact q
section
variable {X : Cx} {tg iter : Expr} {t : Tg} {fi : EvI} {fb : EvS} {body : List Stmt} {pos : Pos}
theorem psv_for (hp : PassesOwn (model X.prog X.w) X.A X.env X.xe) (hc : X.calm = true) (hi : PIv X tg iter fi) (hg : PGv X tg t) (hb : PSsv X body fb) (hs : ∀ x, foldedSetIterable iter X.env x = pure x) :
    PSv X (.For tg iter body [] pos) (sFor t fi fb) := fun W tk =>
  PS.imp (ps_for hp hc (hi W tk) hg (hb W tk) hs) fun D τ H ⟨σ, M, mu, s, st, h⟩ => by
    refine ⟨σ, M, mu, s, st, ?_⟩
    have z := PostI.bindS s h
    revert z
    cases fi σ M with
    | er c n M => exact fun z => z
    | no => exact fun z => z
    | ok ps0 M0 =>
      intro z J H1 mu1 l1 st1 it1
      obtain ⟨mu1', ps, M1, l1', st1', it, hk⟩ := z J H1 mu1 l1 st1 it1
      clear z
      refine ⟨fun i m τ' H' => ∃ σ' M' mu' qs, m = qs.length ∧ i ≤ ps.length ∧ ps.drop i = qs ∧ Le H1 mu1' H' mu' ∧ SlOk X.g H' mu' σ' τ' ∧ StoOk X.g H' mu' mu' M' ∧ PostS X.g H' mu' W (forL t fb qs σ' M') D, ⟨ps.length, σ, M1, mu1', ps, rfl, Nat.zero_le _, rfl, Le.refl _ _, s.mono l1', st1', hk⟩, ?_⟩
      rintro i m τ' H' ⟨σ', M', mu', qs, rfl, hi, hq, l', s', st', h'⟩
      obtain ⟨go, stop, yld⟩ := it H' mu' l' fun T z => st'.fresh (nt_none z)
      cases qs with
      | nil =>
        have hi2 : i = ps.length := by
          have := congrArg List.length hq
          simp at this; omega
        subst hi2
        exact .inl ⟨stop, h' τ' H' mu' (Le.refl _ _) s' st'⟩
      | cons p qs =>
        have hlt : i < ps.length := by
          by_cases z : i < ps.length
          · exact z
          · rw [List.drop_eq_nil_of_le (by omega)] at hq; cases hq
        have hpi : ps[i]? = some p := by
          rw [List.drop_eq_getElem_cons hlt] at hq
          cases hq
          simp [hlt]
        have hq2 : ps.drop (i + 1) = qs := by
          rw [List.drop_eq_getElem_cons hlt] at hq
          cases hq; rfl
        refine .inr ⟨go i hlt, fun τ2 H2 => ∃ σ2 M2 mu2, Le H1 mu1' H2 mu2 ∧ SlOk X.g H2 mu2 σ2 τ2 ∧ StoOk X.g H2 mu2 mu2 M2 ∧ PostS X.g H2 mu2 W (forL t fb qs σ2 M2) D, ?_, ?_⟩
        · rintro τ2 H2 ⟨σ2, M2, mu2, k1, k2, k3, k4⟩
          exact ⟨qs.length, by simp, σ2, M2, mu2, qs, rfl, hlt, hq2, k1, k2, k3, k4⟩
        · intro x H3 y
          obtain ⟨y1, y2⟩ := yld i x H3 hlt y
          have rx := y2 p hpi (has_yld y1)
          have ly := le_yld (mu := mu') y1
          unfold forL at h'
          have h' := PostS.shift ly h'
          cases e : tgA t p σ' with
          | none => rw [e] at h'; exact h'.elim
          | some σ1 =>
            rw [e] at h'
            dsimp only at h'
            refine gT_ok rx (s'.mono ly) e fun τ1 s1 _ => ⟨σ1, M', mu', s1, sto_yld y1 st', ?_⟩
            have l3 := l'.trans ly
            cases eb : fb σ1 M' with
            | ok fl M2 =>
              rw [eb] at h'
              cases fl with
              | nx σ2 => exact fun τ2 H2 mu2 l2 s2 st2 => ⟨σ2, M2, mu2, l3.trans l2, s2, st2, PostS.shift l2 h'⟩
              | ct σ2 => exact fun τ2 H2 mu2 l2 s2 st2 => ⟨σ2, M2, mu2, l3.trans l2, s2, st2, PostS.shift l2 h'⟩
              | bk σ2 => exact h'
              | rt d => exact h'
            | er c n σ2 M2 => rw [eb] at h'; exact h'
            | no => rw [eb] at h'; exact h'
end

/-! ### while -/
def whL (c : EvB) (body : EvS) : Nat → Fr → Sto → OutS
  | 0, _, _ => .no
  | n + 1, σ, M => match c σ M with
    | .ok true M1 => match body σ M1 with
      | .ok (.nx σ2) M2 => whL c body n σ2 M2
      | .ok (.ct σ2) M2 => whL c body n σ2 M2
      | .ok (.bk σ2) M2 => .ok (.nx σ2) M2
      | .ok (.rt d) M2 => .ok (.rt d) M2
      | .er c n σ2 M2 => .er c n σ2 M2
      | .no => .no
    | .ok false M1 => .ok (.nx σ) M1
    | .er c n M1 => .er c n σ M1
    | .no => .no
theorem whL_succ {c : EvB} {body : EvS} : ∀ {n : Nat} {σ : Fr} {M : Sto}, whL c body n σ M ≠ .no → whL c body (n + 1) σ M = whL c body n σ M
  | 0, _, _, h => absurd rfl h
  | n + 1, σ, M, h => by
    have ih : ∀ σ M, whL c body n σ M ≠ .no → whL c body (n + 1) σ M = whL c body n σ M := fun σ M => whL_succ
    rw [show whL c body (n + 1 + 1) σ M = (match c σ M with
      | .ok true M1 => match body σ M1 with
        | .ok (.nx σ2) M2 => whL c body (n + 1) σ2 M2
        | .ok (.ct σ2) M2 => whL c body (n + 1) σ2 M2
        | .ok (.bk σ2) M2 => .ok (.nx σ2) M2
        | .ok (.rt d) M2 => .ok (.rt d) M2
        | .er c n σ2 M2 => .er c n σ2 M2
        | .no => .no
      | .ok false M1 => .ok (.nx σ) M1
      | .er c n M1 => .er c n σ M1
      | .no => .no) from rfl]
    rw [show whL c body (n + 1) σ M = (match c σ M with
      | .ok true M1 => match body σ M1 with
        | .ok (.nx σ2) M2 => whL c body n σ2 M2
        | .ok (.ct σ2) M2 => whL c body n σ2 M2
        | .ok (.bk σ2) M2 => .ok (.nx σ2) M2
        | .ok (.rt d) M2 => .ok (.rt d) M2
        | .er c n σ2 M2 => .er c n σ2 M2
        | .no => .no
      | .ok false M1 => .ok (.nx σ) M1
      | .er c n M1 => .er c n σ M1
      | .no => .no) from rfl] at h ⊢
    cases e : c σ M with
    | ok b M1 =>
      rw [e] at h
      cases b with
      | true =>
        dsimp only at h ⊢
        cases e2 : body σ M1 with
        | ok f M2 =>
          rw [e2] at h
          cases f with
          | nx σ2 => exact ih _ _ h
          | ct σ2 => exact ih _ _ h
          | _ => rfl
        | _ => rfl
      | false => rfl
    | _ => rfl
theorem whL_le {c : EvB} {body : EvS} {n m : Nat} {σ : Fr} {M : Sto} (h : whL c body n σ M ≠ .no) (l : n ≤ m) : whL c body m σ M = whL c body n σ M := by
  induction m with
  | zero => rw [Nat.le_zero.mp l]
  | succ m ih =>
    rcases Nat.lt_or_ge n (m + 1) with z | z
    · have e := ih (by omega)
      rw [whL_succ (by rw [e]; exact h), e]
    · rw [show n = m + 1 by omega]
/-- at most 1000 turns are told -/
def sWhile (c : EvB) (body : EvS) : EvS := whL c body 1000
theorem sWhile_eq {c : EvB} {body : EvS} {n : Nat} {σ : Fr} {M : Sto} (h : whL c body n σ M ≠ .no) (l : n ≤ 1000) : sWhile c body σ M = whL c body n σ M := whL_le h l
section
variable {X : Cx} {c : Expr} {fc : EvB} {fb : EvS} {body : List Stmt} {pos : Pos}
theorem psv_while (hp : PassesOwn (model X.prog X.w) X.A X.env X.xe) (hc : PTv X c fc) (hb : PSsv X body fb) : PSv X (.While c body [] pos) (sWhile fc fb) := fun W tk =>
  PS.imp (ps_while hp (hc W tk) (hb W tk)) fun D τ H ⟨σ, M, mu, s, st, h⟩ => by
    obtain ⟨n, en⟩ : ∃ n, sWhile fc fb σ M = whL fc fb n σ M := ⟨1000, rfl⟩
    rw [en] at h
    refine ⟨fun m τ' H' => ∃ σ' M' mu', SlOk X.g H' mu' σ' τ' ∧ StoOk X.g H' mu' mu' M' ∧ PostS X.g H' mu' W (whL fc fb m σ' M') D, ⟨n, σ, M, mu, s, st, h⟩, ?_⟩
    rintro m τ' H' ⟨σ', M', mu', s', st', h'⟩
    cases m with
    | zero => exact h'.elim
    | succ m =>
      unfold whL at h'
      refine ⟨σ', M', mu', s', st', ?_⟩
      cases ec : fc σ' M' with
      | ok b M1 =>
        rw [ec] at h'
        intro H1 mu1 l1 st1
        have s1 := s'.mono l1
        cases b with
        | true =>
          refine iteT ⟨fun τ2 H2 => ∃ σ2 M2 mu2, SlOk X.g H2 mu2 σ2 τ2 ∧ StoOk X.g H2 mu2 mu2 M2 ∧ PostS X.g H2 mu2 W (whL fc fb m σ2 M2) D, fun τ2 H2 k => ⟨m, Nat.lt_succ_self _, k⟩, σ', M1, mu1, s1, st1, ?_⟩
          have h' := PostS.shift l1 h'
          dsimp only at h'
          cases eb : fb σ' M1 with
          | ok fl M2 =>
            rw [eb] at h'
            cases fl with
            | nx σ2 => exact fun τ2 H2 mu2 l2 s2 st2 => ⟨σ2, M2, mu2, s2, st2, PostS.shift l2 h'⟩
            | ct σ2 => exact fun τ2 H2 mu2 l2 s2 st2 => ⟨σ2, M2, mu2, s2, st2, PostS.shift l2 h'⟩
            | bk σ2 => exact h'
            | rt d => exact h'
          | er c n σ2 M2 => rw [eb] at h'; exact h'
          | no => rw [eb] at h'; exact h'
        | false => exact iteF (h' τ' H1 mu1 l1 s1 st1)
      | er c n M1 => rw [ec] at h'; exact fun cls dd H2 mu2 l2 st x => h' cls dd τ' H2 mu2 l2 (s'.mono l2) st x
      | no => rw [ec] at h'; exact h'
end

/-! ### comprehensions -/
def wipeF (σ : Fr) : List Nat → Fr
  | [] => σ
  | v :: vs => (wipeF σ vs).set v none
theorem wipe_ok {g : Mg} {H : Hp} {mu : List Addr} {σ : Fr} {τ : L2.St} (s : SlOk g H mu σ τ) : ∀ vs : List Nat, SlOk g H mu (wipeF σ vs) (wipe τ vs)
  | [] => s
  | v :: vs => (wipe_ok s vs).none v
/-- an item of the new list is the object L of the store -/
def addL (L : Nat) (q : P) (M : Sto) : Out Unit := match M[L]? with
  | some (.lst acc) => if acc.length < lim then .ok () (M.set L (.lst (acc ++ [q]))) else .no
  | _ => .no
def lcL (t : Tg) (ok : Bool) (ifs : EvB) (el : EvD) (L : Nat) (σ : Fr) : List P → Sto → Out D
  | [], M => match M[L]? with
    | some (.lst acc) => if M.length = L + 1 then .ok (.nw acc) (M.take L) else .no
    | _ => .no
  | p :: ps, M => match ok, tgA t p σ with
    | true, some σ1 => (match ifs σ1 M with
      | .ok true M1 => (match el σ1 M1 with
        | .ok d M2 => (match d.val with
          | .p q => (match addL L q M2 with
            | .ok _ M3 => lcL t ok ifs el L σ ps M3
            | _ => .no)
          | _ => .no)
        | _ => .no)
      | .ok false M1 => lcL t ok ifs el L σ ps M1
      | _ => .no)
    | _, _ => .no
def eLc (t : Tg) (vs : List Nat) (fi : EvI) (ifs : EvB) (el : EvD) : EvD := fun σ M => (fi σ M).bind fun ps M1 => lcL t ((tgS t).all fun i => vs.contains i) ifs el M1.length (wipeF σ vs) ps (M1 ++ [.lst []])
def bYes : EvB := fun _ M => .ok true M
end Ev

set_option Elab.async false
set_option linter.all false
set_option maxRecDepth 100000
set_option maxHeartbeats 4000000
/-! Core8: comprehensions; objects of the store that change. -/
namespace Ev
open PySem PySem.Spec PyProof.Rows L2

section
variable {g : Mg} {H H' : Hp} {mu mu' : List Addr} {M : Sto}
/-- an object of the store written -/
theorem Le.wr {a : Addr} {o : HO} (ha : a ∈ mu) (n : NTb o) : Le H mu (L2.upd H a o) mu :=
  ⟨List.prefix_refl _, fun b u hb _ h => by rw [upd_ne (fun z => hb (by rw [z]; exact ha))]; exact h, fun b h => .inl h, fun b h u q m => by
    by_cases z : b = a
    · exact h.no (by rw [z]; exact upd_same) n
    · exact h.no (by rw [upd_ne z]; exact q) m⟩
theorem StoOk.setO {n : Nat} {a : Addr} {ps' : List P} {vs' : List V} (st : StoOk g H mu mu M) (hm : mu[n]? = some a) (r : RepL g H mu ps' vs') : StoOk g (L2.upd H a (.lst vs')) mu mu (M.set n (.lst ps')) := by
  have ha : a ∈ mu := List.mem_of_getElem? hm
  have l : Le H mu (L2.upd H a (.lst vs')) mu := Le.wr ha ntb_lst
  have tb : TbsOk g (L2.upd H a (.lst vs')) := by
    have hn : n < M.length := by rw [← st.len]; exact (List.getElem?_eq_some_iff.mp hm).1
    obtain ⟨b, h1, h2⟩ := st.obj n M[n] (List.getElem?_eq_getElem hn)
    rw [hm] at h1
    cases h1
    cases hmo : M[n] with
    | lst ps =>
      rw [hmo] at h2
      obtain ⟨vs, k1, _⟩ := h2
      exact st.tab.wr k1 ntb_lst fun φ z => by cases z
    | ins c fs =>
      rw [hmo] at h2
      obtain ⟨C, dx, vs, _, k1, _⟩ := h2
      exact st.tab.wr k1 ntb_ins fun φ z => by cases z
  refine ⟨tb, by rw [List.length_set]; exact st.len, st.nd, st.sub, fun j mo q => ?_⟩
  by_cases hj : n = j
  · subst hj
    have hn : n < M.length := by rw [← st.len]; exact (List.getElem?_eq_some_iff.mp hm).1
    rw [List.getElem?_set_self hn] at q
    cases q
    exact ⟨a, hm, vs', upd_same, r.mono l⟩
  · rw [List.getElem?_set_ne hj] at q
    obtain ⟨b, h1, h2⟩ := st.obj j mo q
    have hb : b ≠ a := fun z => by
      rw [z] at h1
      obtain ⟨l1, e1⟩ := List.getElem?_eq_some_iff.mp h1
      obtain ⟨l2, e2⟩ := List.getElem?_eq_some_iff.mp hm
      have pw := List.pairwise_iff_getElem.mp st.nd
      rcases Nat.lt_trichotomy n j with z | z | z
      · exact pw n j l2 l1 z (e2.trans e1.symm)
      · exact hj z
      · exact pw j n l1 l2 z (e1.trans e2.symm)
    refine ⟨b, h1, ?_⟩
    cases mo with
    | lst ps =>
      obtain ⟨vs, k1, k2⟩ := h2
      exact ⟨vs, by rw [upd_ne hb]; exact k1, k2.mono l⟩
    | ins c fs =>
      obtain ⟨C, dx, vs, k0, k1, k2⟩ := h2
      exact ⟨C, dx, vs, k0, by rw [upd_ne hb]; exact k1, k2.mono l⟩
end

theorem wipe_wipe (τ : L2.St) : ∀ vs : List Nat, wipe (wipe τ vs) vs = wipe τ vs
  | [] => rfl
  | v :: vs => by
    show wipe ((wipe τ vs).set v none) (v :: vs) = (wipe τ vs).set v none
    rw [wipe_set List.mem_cons_self]
    show (wipe (wipe τ vs) vs).set v none = _
    rw [wipe_wipe τ vs]
def PTsv (X : Cx) (ifs : List Expr) (f : EvB) : Prop := ∀ W, L2N.Takes X W → PTs X ifs (tTr X.g W f)
abbrev W0 : WX := fun _ _ _ _ => False
theorem takes0 {X : Cx} : L2N.Takes X W0 := fun u s' ⟨_, _, _, _, _, _, _, _, _, _, _, _, _, _, _, _, w⟩ => w.elim
theorem ptsv_nil {X : Cx} : PTsv X [] bYes := fun W tk => ⟨fun pins s σ H Q I ⟨σ', M, mu, sl, st, h⟩ => pts_nil.run pins s σ H Q I (h H mu (Le.refl _ _) st)⟩
theorem ptsv_one {X : Cx} {c : Expr} {f : EvB} (h : PTv X c f) : PTsv X [c] f := fun W tk => pts_one (h W tk)
theorem PostI.bindO {g : Mg} {H : Hp} {mu : List Addr} {τ : L2.St} {W : WX} {Q : VK} {o : Out (List P)} {k : List P → Sto → Out D} (h : PostO g H mu τ W (o.bind k) Q) :
    PostI g H mu τ W o (fun J H' => ∃ mu' ps M', Le H mu H' mu' ∧ StoOk g H' mu' mu' M' ∧ ItIs g J ps H' mu' ∧ PostO g H' mu' τ W (k ps M') Q) := by
  cases o with
  | ok ds M => exact fun J H2 mu2 l2 st r => ⟨mu2, ds, M, l2, st, r, PostO.shift l2 h⟩
  | er c n M => exact h
  | no => exact h.elim
theorem lc_of {g : Mg} {W : WX} {τ : L2.St} {H : Hp} {Q : VK} {K : PySem.W.Frag} {t : Tg} {vs : List Nat} {fi : EvI} {fif : EvB} {fe : EvD} (h : tE g W (eLc t vs fi fif fe) τ H Q) :
    tLc (tI g W fi) (gT K t) (tTr g W0 fif) (tE g W0 fe) vs τ H Q := by
  obtain ⟨σ, M, mu, s, st, h⟩ := h
  refine ⟨σ, M, mu, s, st, ?_⟩
  have z := PostI.bindO h
  revert z
  cases fi σ M with
  | er c n M => exact fun z => z
  | no => exact fun z => z
  | ok ps0 M0 =>
    intro z J H1 mu1 l1 st1 it1
    obtain ⟨mu1', ps, M1, l1', st1', it, hk⟩ := z J H1 mu1 l1 st1 it1
    clear z
    intro D hD
    have hL := st1'.len
    have hDn : D ∉ mu1' := st1'.fresh (nt_none hD)
    have hlx : Le H1 mu1' (upd H1 D (.lst [])) (mu1' ++ [D]) := Le.updx hD
    have stx : StoOk g (upd H1 D (.lst [])) (mu1' ++ [D]) (mu1' ++ [D]) (M1 ++ [.lst []]) := (st1'.updx hD).push hDn ⟨[], upd_same, RepL.nil⟩
    refine ⟨fun i m H' => ∃ M' mu' qs, m = qs.length ∧ i ≤ ps.length ∧ ps.drop i = qs ∧ Le (upd H1 D (.lst [])) (mu1' ++ [D]) H' mu' ∧ StoOk g H' mu' mu' M' ∧
      PostO g H1 mu1' τ W (lcL t ((tgS t).all fun i => vs.contains i) fif fe M1.length (wipeF σ vs) qs M') Q, ⟨ps.length, M1 ++ [.lst []], mu1' ++ [D], ps, rfl, Nat.zero_le _, rfl, Le.refl _ _, stx, hk⟩, ?_⟩
    rintro i m H' ⟨M', mu', qs, rfl, hi, hq, l', st', h'⟩
    have lw := hlx.trans l'
    obtain ⟨go, stop, yld⟩ := it H' mu' lw fun T z => st'.fresh (nt_none z)
    have atD : ∀ {H5 mu5 M5 acc}, Le (upd H1 D (.lst [])) (mu1' ++ [D]) H5 mu5 → StoOk g H5 mu5 mu5 M5 → M5[M1.length]? = some (.lst acc) → mu5[M1.length]? = some D ∧ ∃ ws, H5 D = some (.lst ws) ∧ RepL g H5 mu5 acc ws := by
      intro H5 mu5 M5 acc l5 s5 e5
      obtain ⟨t5, rfl⟩ := l5.pre
      obtain ⟨a, k1, ws, k2, k3⟩ := s5.obj _ _ e5
      have e6 : ((mu1' ++ [D]) ++ t5)[M1.length]? = some D := by
        rw [← hL, List.append_assoc, List.getElem?_append_right (Nat.le_refl _), Nat.sub_self]; rfl
      rw [e6] at k1
      cases k1
      exact ⟨e6, ws, k2, k3⟩
    cases qs with
    | nil =>
      have hi2 : i = ps.length := by
        have := congrArg List.length hq
        simp at this; omega
      subst hi2
      refine .inl ⟨stop, ?_⟩
      unfold lcL at h'
      split at h'
      · rename_i acc e
        split at h'
        · rename_i hlen
          obtain ⟨k0, ws, k1, k2⟩ := atD l' st' e
          have hmu : mu' = mu1' ++ [D] := by
            obtain ⟨t5, rfl⟩ := l'.pre
            have := st'.len
            rw [hlen, List.length_append, List.length_append] at this
            have : t5 = [] := List.length_eq_zero_iff.mp (by simp at this; omega)
            rw [this, List.append_nil]
          subst hmu
          refine h' _ H' mu1' lw.cut ⟨D, ws, rfl, nt_none hD, hDn, k1, k2, ?_⟩
          rw [← hL]
          exact st'.cutx lw (by simp) hDn
        · exact h'.elim
      · exact h'.elim
    | cons p qs =>
      have hlt : i < ps.length := by
        by_cases z : i < ps.length
        · exact z
        · rw [List.drop_eq_nil_of_le (by omega)] at hq; cases hq
      have hpi : ps[i]? = some p := by
        rw [List.drop_eq_getElem_cons hlt] at hq
        cases hq
        simp [hlt]
      have hq2 : ps.drop (i + 1) = qs := by
        rw [List.drop_eq_getElem_cons hlt] at hq
        cases hq; rfl
      refine .inr ⟨go i hlt, fun H2 => ∃ M2 mu2, Le (upd H1 D (.lst [])) (mu1' ++ [D]) H2 mu2 ∧ StoOk g H2 mu2 mu2 M2 ∧ PostO g H1 mu1' τ W (lcL t ((tgS t).all fun i => vs.contains i) fif fe M1.length (wipeF σ vs) qs M2) Q, ?_, ?_⟩
      · rintro H2 ⟨M2, mu2, k1, k2, k3⟩
        exact ⟨qs.length, by simp, M2, mu2, qs, rfl, hlt, hq2, k1, k2, k3⟩
      · intro x H3 y
        obtain ⟨y1, y2⟩ := yld i x H3 hlt y
        have rx := y2 p hpi (has_yld y1)
        have ly := le_yld (mu := mu') y1
        have l3 := l'.trans ly
        have s3 : SlOk g H3 mu' (wipeF σ vs) (wipe τ vs) := (wipe_ok s vs).mono ((l1'.trans lw).trans ly)
        unfold lcL at h'
        split at h'
        · rename_i σ1 hok e
          refine gT_ok rx s3 e fun τ1 s1 hw => ⟨?_, ?_⟩
          · rw [hw vs fun i hi => ?_, wipe_wipe]
            have := List.all_eq_true.mp hok i hi
            simpa using this
          · refine ⟨σ1, M', mu', s1, sto_yld y1 st', ?_⟩
            cases e1 : fif σ1 M' with
            | ok b M4 =>
              rw [e1] at h'
              intro H4 mu4 l4 st4
              have s4 := s1.mono l4
              have l4' := l3.trans l4
              cases b with
              | false => exact iteF ⟨M4, mu4, l4', st4, h'⟩
              | true =>
                refine iteT ⟨σ1, M4, mu4, s4, st4, ?_⟩
                dsimp only at h'
                cases e2 : fe σ1 M4 with
                | ok d M5 =>
                  rw [e2] at h'
                  intro v H5 mu5 l5 p5
                  obtain ⟨st5, r5⟩ := p5.val
                  have l5' := l4'.trans l5
                  dsimp only at h'
                  split at h'
                  · rename_i q eq
                    rw [eq] at r5
                    have r5 : Rep g H5 mu5 q v := r5
                    unfold addL at h'
                    split at h'
                    · rename_i M6 e6
                      split at e6
                      · rename_i acc e7
                        split at e6
                        · rename_i hacc
                          cases e6
                          obtain ⟨k0, ws, k1, k2⟩ := atD l5' st5 e7
                          refine ⟨ws, k1, lim_lt (by rw [k2.length]; exact hacc), _, mu5, l5'.trans (Le.wr (List.mem_of_getElem? k0) ntb_lst), st5.setO k0 (k2.append (RepL.one r5)), h'⟩
                        · cases e6
                      · cases e6
                    · exact h'.elim
                  · exact h'.elim
                | er c n M5 => rw [e2] at h'; exact h'.elim
                | no => rw [e2] at h'; exact h'.elim
            | er c n M4 => rw [e1] at h'; exact h'.elim
            | no => rw [e1] at h'; exact h'.elim
        · exact h'.elim
section
variable {X : Cx} {elt tg iter : Expr} {ifs : List Expr} {scope : Scope} {own : List (Str × Nat)} {pos spos : Pos} {t : Tg} {fi : EvI} {fif : EvB} {fe : EvD}
theorem pv_lc (hc : X.calm = true) (hN : X.N.Nodup) (hi : PIv X tg iter fi) (ok : BlkOk X.N X.env.scope scope own)
    (hg : ∀ (s : Shared) (H : Hp) (C : Addr) (cl : List (Str × Addr)) (fp : List Addr), PGv (X.blk s H scope (compEnvC scope cl C X.env) fp) tg t)
    (ht : ∀ (s : Shared) (H : Hp) (C : Addr) (cl : List (Str × Addr)) (fp : List Addr), PTsv (X.blk s H scope (compEnvC scope cl C X.env) fp) ifs fif)
    (he : ∀ (s : Shared) (H : Hp) (C : Addr) (cl : List (Str × Addr)) (fp : List Addr), PEv (X.blk s H scope (compEnvC scope cl C X.env) fp) elt fe) (hs : ∀ x, foldedSetIterable iter X.env x = pure x) :
    PEv X (.ListComp elt [⟨tg, iter, ifs, 0⟩] scope pos) (eLc t (own.map (·.2)) fi fif fe) := fun W tk =>
  PE.imp (pe_lc (g := gT X.K t) hc hN (hi W tk) ok (fun s H C cl fp => hg s H C cl fp) (fun s H C cl fp => ht s H C cl fp W0 takes0) (fun s H C cl fp => he s H C cl fp W0 takes0) hs) fun τ H Q h => lc_of h
theorem psv_setLc {i : Nat} {y : Str} {py : Pos} (hc : X.calm = true) (hN : X.N.Nodup) (hy : X.N[i]? = some y) (hyl : X.env.scope.names.lookup y = some .local)
    (hsw : swapsWith (.ListComp elt [⟨tg, iter, ifs, 0⟩] scope pos) (some (.Name y py)) spos.line X.env = pure true) (hi : PIv X tg iter fi) (ok : BlkOk X.N X.env.scope scope own)
    (hg : ∀ (s : Shared) (H : Hp) (C : Addr) (cl : List (Str × Addr)) (fp : List Addr), PGv (X.blk s H scope (compEnvC scope cl C X.env) fp) tg t)
    (ht : ∀ (s : Shared) (H : Hp) (C : Addr) (cl : List (Str × Addr)) (fp : List Addr), PTsv (X.blk s H scope (compEnvC scope cl C X.env) fp) ifs fif)
    (he : ∀ (s : Shared) (H : Hp) (C : Addr) (cl : List (Str × Addr)) (fp : List Addr), PEv (X.blk s H scope (compEnvC scope cl C X.env) fp) elt fe) (hs : ∀ x, foldedSetIterable iter X.env x = pure x) :
    PSv X (.Assign [.Name y py] (.ListComp elt [⟨tg, iter, ifs, 0⟩] scope pos) spos) (sSet i (eLc t (own.map (·.2)) fi fif fe)) := fun W tk =>
  PS.imp (ps_setLc (g := gT X.K t) hc hN hy hyl hsw (hi W tk) ok (fun s H C cl fp => hg s H C cl fp) (fun s H C cl fp => ht s H C cl fp W0 takes0) (fun s H C cl fp => he s H C cl fp W0 takes0) hs) fun D τ H h => by
    obtain ⟨σ, M, mu, s, st, h⟩ := h
    exact lc_of ⟨σ, M, mu, s, st, (PostO.bindS s h).mono fun v H1 ⟨mu1, d, M1, l1, st1, r1, h1⟩ => h1 _ H1 mu1 (Le.refl _ _) ((s.mono l1).set i r1) st1⟩
theorem psv_setLcM {i : Nat} {y : Str} {py : Pos} (hc : X.calm = true) (hN : X.N.Nodup) (hy : X.N[i]? = some y) (hyl : X.env.scope.names.lookup y = some .local)
    (hsw : swapsWith (.ListComp elt [⟨tg, iter, ifs, 0⟩] scope pos) (some (.Name y py)) spos.line X.env = pure true) (hi : PIv X tg iter fi) (ok : BlkOk X.N X.env.scope scope own)
    (hg : ∀ (s : Shared) (H : Hp) (C : Addr) (cl : List (Str × Addr)) (fp : List Addr), PGv (X.blk s H scope (compEnvC scope cl C X.env) fp) tg t)
    (ht : ∀ (s : Shared) (H : Hp) (C : Addr) (cl : List (Str × Addr)) (fp : List Addr), PTsv (X.blk s H scope (compEnvC scope cl C X.env) fp) ifs fif)
    (he : ∀ (s : Shared) (H : Hp) (C : Addr) (cl : List (Str × Addr)) (fp : List Addr), PEv (X.blk s H scope (compEnvC scope cl C X.env) fp) elt fe) (hs : ∀ x, foldedSetIterable iter X.env x = pure x) :
    PSv X (.Assign [.Name y py] (.ListComp elt [⟨tg, iter, ifs, 0⟩] scope pos) spos) (sSetM i (eLc t (own.map (·.2)) fi fif fe)) := fun W tk =>
  PS.imp (ps_setLc (g := gT X.K t) hc hN hy hyl hsw (hi W tk) ok (fun s H C cl fp => hg s H C cl fp) (fun s H C cl fp => ht s H C cl fp W0 takes0) (fun s H C cl fp => he s H C cl fp W0 takes0) hs) fun D τ H h => by
    have h2 := setM_of h
    exact lc_of h2
end

/-! ### lists that change -/
def appK (n : Nat) : List D → Sto → Out D
  | [.p q], M => (match M[n]? with
    | some (.lst ps) => if ps.length < lim then .ok (.p .non) (M.set n (.lst (ps ++ [q]))) else .no
    | _ => .no)
  | _, _ => .no
def extK (n : Nat) : List D → Sto → Out D
  | [.p (.lst qs)], M => (match M[n]? with
    | some (.lst ps) => if ps.length + qs.length ≤ lim then .ok (.p .non) (M.set n (.lst (ps ++ qs))) else .no
    | _ => .no)
  | _, _ => .no
/-- x.append(y), x.extend(y) -/
def eLm (K : Nat → List D → Sto → Out D) (fa : EvD) (fs : EvA) : EvD := fun σ M => (fa σ M).bind fun d M1 => match d with
  | .loc n => (match M1[n]? with
    | some (.lst _) => (fs σ M1).bind fun ds M2 => K n ds M2
    | _ => .no)
  | _ => .no
/-- what a list's method does to the store's list n -/
def LmO (K : Nat → List D → Sto → Out D) (r : V → List V → Hp → VK → Prop) : Prop :=
  ∀ (g : Mg) (H : Hp) (mu : List Addr) (M : Sto) (n : Nat) (a : Addr) (ds : List D) (vs : List V) (τ : L2.St) (W : WX) (Q : VK), StoOk g H mu mu M → mu[n]? = some a → RepDL g H mu ds vs → PostO g H mu τ W (K n ds M) Q → r (.ref a) vs H Q
theorem lm_app : LmO appK rAppend := fun g H mu M n a ds vs τ W Q st hm r h => by
  unfold appK at h
  split at h
  · rename_i q
    split at h
    · rename_i ps e
      split at h
      · rename_i hl
        obtain ⟨v, r', rfl, k1, k2⟩ := r
        rw [show r' = [] from k2]
        obtain ⟨b, e1, ws, e2, e3⟩ := st.obj n _ e
        rw [hm] at e1; cases e1
        refine ⟨a, ws, v, rfl, rfl, e2, lim_lt (by rw [e3.length]; exact hl), ?_⟩
        exact h .non _ mu (Le.wr (List.mem_of_getElem? hm) ntb_lst) ⟨st.setO hm (e3.append (RepL.one k1)), by show Rep _ _ _ _ _; unfold Rep; rfl⟩
      · exact h.elim
    · exact h.elim
  · exact h.elim
theorem lm_ext : LmO extK rExtend := fun g H mu M n a ds vs τ W Q st hm r h => by
  unfold extK at h
  split at h
  · rename_i qs
    split at h
    · rename_i ps e
      split at h
      · rename_i hl
        obtain ⟨v, r', rfl, k1, k2⟩ := r
        rw [show r' = [] from k2]
        obtain ⟨b, e1, ws, e2, e3⟩ := st.obj n _ e
        rw [hm] at e1; cases e1
        have k1 : Rep _ _ _ _ _ := k1
        unfold Rep at k1
        obtain ⟨c, zs, rfl, k3, k4, k5⟩ := k1
        refine ⟨a, c, ws, zs, rfl, rfl, e2, k4, lim_le (by rw [e3.length, k5.length]; exact hl), ?_⟩
        exact h .non _ mu (Le.wr (List.mem_of_getElem? hm) ntb_lst) ⟨st.setO hm (e3.append k5), by show Rep _ _ _ _ _; unfold Rep; rfl⟩
      · exact h.elim
    · exact h.elim
  · exact h.elim
section
variable {X : Cx} {o e : Expr} {es : List Expr} {fa : EvD} {fs : EvA} {K : Nat → List D → Sto → Out D} {r : V → List V → Hp → VK → Prop} {pos apos cpos : Pos}
theorem lm_of {g : Mg} {W : WX} {τ : L2.St} {H : Hp} {Q : VK} {F : PySem.W.Frag} (hK : LmO K r) (h : tE g W (eLm K fa fs) τ H Q) : tBM F "list" r (tE g W fa) (tAr g W fs) τ H Q := by
  obtain ⟨σ, M, mu, s, st, h⟩ := h
  refine ⟨σ, M, mu, s, st, (PostO.bind h).mono fun x H1 ⟨mu1, d, M1, l1, st1, r1, h1⟩ => ?_⟩
  try dsimp only at h1
  split at h1
  · rename_i n
    split at h1
    · rename_i ps e
      obtain ⟨a, k1, rfl⟩ := r1
      obtain ⟨b, e1, vs, e2, e3⟩ := st1.obj n _ e
      rw [k1] at e1; cases e1
      refine ⟨ty_of (g := g) (e := mu1) (p := .lst ps) (.inr ⟨ps, a, vs, rfl, rfl, e2, e3⟩) rfl, σ, M1, mu1, s.mono l1, st1, ?_⟩
      refine PostA.mono (PostA.bind h1) fun us H2 ⟨mu2, ds, M2, l2, st2, r2, h2⟩ => ?_
      refine hK g H2 mu2 M2 n a ds us τ W Q st2 ?_ r2 h2
      obtain ⟨t, rfl⟩ := l2.pre
      rw [List.getElem?_append_left (List.getElem?_eq_some_iff.mp k1).1]
      exact k1
    · exact h1.elim
  · exact h1.elim
theorem pv_lm {id : String} {name : Str} (pa : PlainAttrs "list") (slot : Slot "list" name id) (hty : typeOf (.builtin id) = pure (.type "method_descriptor")) (hm : MtM X id r) (hK : LmO K r) (ho : PEv X o fa) (ha : PAv X (e :: es) fs)
    (hbase : attributeBase o name X.env (eval o X.env) = eval o X.env)
    (hfew : ((backTo cpos (starEach (e :: es) X.env)).all (fun x => !x.1) && (backToKw cpos (keywordEach [] X.env)).all (fun x => x.1.isSome)
      && decide ((e :: es).length + ([] : List Keyword).length + (if ([] : List Keyword).isEmpty then 0 else 1) < 30)) = true)
    (hline : (apos.endLine == cpos.line) = true) (hs : starEach (e :: es) X.env = (false, eval e X.env) :: starEach es X.env) (hplain : (backTo cpos (starEach es X.env)).any (·.1) = false) :
    PEv X (.Call (.Attribute o name apos) (e :: es) [] cpos) (eLm K fa fs) := fun W tk => PE.imp (pe_bm pa slot hty hm (ho W tk) (ha W tk) hbase hfew hline hs hplain) fun τ H Q h => lm_of hK h
/-- x[i] = e -/
def sSub (fv fo fi : EvD) : EvS := fun σ M => (fv σ M).toS σ fun d M1 => (fo σ M1).toS σ fun dl M2 => (fi σ M2).toS σ fun di M3 => match d.val, dl, di with
  | .p q, .loc n, .p (.int k) => (match M3[n]? with
    | some (.lst ps) => (match ixN ps.length k with
      | some j => .ok (.nx σ) (M3.set n (.lst (ps.set j q)))
      | none => .no)
    | _ => .no)
  | _, _, _ => .no
theorem psv_sub {oe ie : Expr} {tpos : Pos} {fv fo fi : EvD} (he : PEv X e fv) (ho : PEv X oe fo) (hi : PEv X ie fi) (hx : ∀ v, assign (.Subscript oe ie tpos) X.env v = (do
      let ov ← holding [v] (eval oe X.env)
      let iv ← holding [v, ov] (eval ie X.env)
      standAt tpos
      holding [v, ov, iv] (setItem ov iv v)
      release [v, ov, iv] [])) (hs : swapsWithSole [.Subscript oe ie tpos] e pos.line X.env = pure false) (hw : swappedStores [.Subscript oe ie tpos] e X.env = pure none)
    (h1 : (assignEach [.Subscript oe ie tpos] X.env).map (·.2) = [assign (.Subscript oe ie tpos) X.env]) : PSv X (.Assign [.Subscript oe ie tpos] e pos) (sSub fv fo fi) := fun W tk =>
  PS.imp (ps_asg (he W tk) (pg_sub (ho W tk) (hi W tk) set_list hx) hs hw h1) fun D τ H ⟨σ, M, mu, s, st, h⟩ => by
    refine ⟨σ, M, mu, s, st, (PostO.bindS s h).mono fun x H1 ⟨mu1, d, M1, l1, st1, r1, h1⟩ => ?_⟩
    have s1 := s.mono l1
    refine ⟨σ, M1, mu1, s1, st1, (PostO.bindS s1 h1).mono fun y H2 ⟨mu2, dl, M2, l2, st2, r2, h2⟩ => ?_⟩
    have s2 := s1.mono l2
    refine ⟨σ, M2, mu2, s2, st2, (PostO.bindS s2 h2).mono fun z H3 ⟨mu3, di, M3, l3, st3, r3, h3⟩ => ?_⟩
    try dsimp only at h3
    have r1 := r1.mono (l2.trans l3)
    have r2 := r2.mono l3
    split at h3
    · have hv : ∀ {q}, d.val = .p q → Rep X.g H3 mu3 q x := fun {q} e => by rw [e] at r1; exact r1
      rename_i q n k e0 _ _
      have r1 : Rep X.g H3 mu3 q x := hv (by assumption)
      split at h3
      · rename_i ps e
        split at h3
        · rename_i j hj
          obtain ⟨a, k1, rfl⟩ := r2
          obtain ⟨b, e1, ws, e2, e3⟩ := st3.obj n _ e
          rw [k1] at e1; cases e1
          refine ⟨a, ws, k, j, rfl, rep_int_dl r3, e2, by rw [e3.length]; exact hj, ?_⟩
          exact h3 _ _ mu3 (Le.wr (List.mem_of_getElem? k1) ntb_lst) ((s2.mono l3).mono (Le.wr (List.mem_of_getElem? k1) ntb_lst)) (st3.setO k1 (e3.set j r1))
        · exact h3.elim
      · exact h3.elim
    · exact h3.elim
/-- name op= e -/
def sAug (i : Nat) (o : P → P → Option D) (f : EvD) : EvS := fun σ M => match σ[i]? with
  | some (some dx) => (f σ M).toS σ fun d M1 => (op2 o dx d M1).toS σ fun r M2 => .ok (.nx (σ.set i (some r.val))) M2
  | _ => .no
theorem psv_aug {i : Nat} {x : Str} {op : Operator} {oo : P → P → Option D} {pos' : Pos} {f : EvD} (hN : X.N.Nodup) (hi : X.N[i]? = some x) (hx : Loc X.env.scope x) (he : PEv X e f) (ho : Op2 X (inplaceOp op) oo) (hf : X.fn x = true ∨ X.env.scope.names.lookup x = some .local) :
    PSv X (.AugAssign (.Name x pos') op e pos) (sAug i oo f) := fun W tk => PS.imp (ps_aug hN hi hx (he W tk) ho hf) fun D τ H ⟨σ, M, mu, s, st, h⟩ => by
  unfold sAug at h
  split at h
  · rename_i dx hdx
    obtain ⟨v, hv, rv⟩ := s.at_ i dx hdx
    refine ⟨v, hv, σ, M, mu, s, st, (PostO.bindS s h).mono fun y H1 ⟨mu1, d, M1, l1, st1, r1, h1⟩ => ?_⟩
    have s1 := s.mono l1
    try dsimp only at h1
    have h2 := PostO.bindS (τ := τ) s1 h1
    obtain ⟨p, q, r, e1, e2, e3, e4⟩ := op2_inv h2
    rw [e4] at h1
    refine ⟨mu1, M1, p, q, r, st1, (rv.mono l1).get st1 e1, r1.get st1 (by rw [get_val]; exact e2), e3, fun z H2 l2 p2 => ?_⟩
    exact h1 _ H2 mu1 l2 ((s1.mono l2).set i p2.val.2) p2.val.1
  · exact h.elim
end
end Ev

set_option Elab.async false
set_option linter.all false
set_option maxRecDepth 100000
set_option maxHeartbeats 4000000
/-! Core9: zip and enumerate of lists, tuples, texts. -/
namespace Ev
open PySem PySem.Spec PyProof.Rows L2

/-- what is walked -/
inductive Src where
  | l (a : Addr) (vs : List V) | t (a : Addr) (vs : List V) | s (x : Str)
def Src.len : Src → Nat
  | .l _ vs => vs.length
  | .t _ vs => vs.length
  | .s x => x.cps.size
def Src.at (i : Nat) : Src → Option V
  | .l _ vs => vs[i]?
  | .t _ vs => vs[i]?
  | .s x => x.cps[i]?.map fun c => .str ⟨#[c]⟩
def Src.ok (K : PySem.W.Frag) (H : Hp) : Src → Prop
  | .l a vs => SqL K H a vs
  | .t a vs => SqT K H a vs
  | .s _ => True
def Src.val : Src → V
  | .l a _ => .ref a
  | .t a _ => .ref a
  | .s x => .str x
def Src.ads : Src → List Addr
  | .l a _ => [a]
  | .t a _ => [a]
  | .s _ => []
/-- the iterator's object -/
def Src.it (v : Value) (it : Addr) (i : Nat) (h : Heap) : Src → Prop
  | .l a _ => h.IsListIter it a i
  | .t a _ => h.IsTupleIter it a i
  | .s x => ∃ t, v = .str x t ∧ h.IsStrIter it (strIterType x) x t i
theorem Src.it_at {v : Value} {it : Addr} {i : Nat} {h h' : Heap} : ∀ {s : Src}, s.it v it i h → (∀ o, h.get? it = some o → h'.get? it = some o) → s.it v it i h'
  | .l _ _, x, k => x.at k
  | .t _ _, x, k => x.at k
  | .s _, ⟨tk, e, x⟩, k => ⟨tk, e, let ⟨o, ho, r⟩ := x; ⟨o, k o ho, r⟩⟩
theorem Src.it_obj {v : Value} {it : Addr} {i : Nat} {h : Heap} : ∀ {s : Src}, s.it v it i h → ∃ o, h.get? it = some o ∧ ∀ v, o.data ≠ .cell v
  | .l _ _, ⟨o, e, c, d⟩ => ⟨o, e, fun v z => by rw [d] at z; cases z⟩
  | .t _ _, ⟨o, e, c, d⟩ => ⟨o, e, fun v z => by rw [d] at z; cases z⟩
  | .s _, ⟨tk, _, o, e, c, d⟩ => ⟨o, e, fun v z => by rw [d] at z; cases z⟩
section
variable {X : Cx} {pins : List (Addr × Obj)} {σ : L2.St} {H : Hp} {s : Shared}
theorem Src.draws {src : Src} {v : Value} {it : Addr} {A : Around} (hh : A.handled = none) (I : Inv X pins σ H s) (ok : src.ok X.K H) (r : RelV src.val v) (hne : ∀ a ∈ src.ads, a ≠ it) :
    ∃ (P : Nat → Value → Prop) (St : Nat → Heap → Prop), Draws X.prog X.w A it (it :: src.ads) src.len P St ∧ (∀ i, src.it v it i s.heap → St i s.heap) ∧ (∀ i h, St i h → src.it v it i h) ∧ ∀ i u, P i u → ∃ y, src.at i = some y ∧ RelV y u := by
  cases src with
  | l a vs =>
    obtain ⟨its, rv, p, _⟩ := I.list ok
    have D := Draws.list (prog := X.prog) (w := X.w) hh it a (hne a (by simp [Src.ads])) its.toArray
    have hl : its.toArray.size = vs.length := by have := rv.length; simp; omega
    rw [hl] at D
    refine ⟨_, _, D, fun i h => ⟨h, p.isList⟩, fun i h x => x.1, fun i u hu => ?_⟩
    have hu : its.toArray[i]? = some u := hu
    rw [List.getElem?_toArray] at hu
    cases e : vs[i]? with
    | none => rw [rv.none_of e] at hu; cases hu
    | some y =>
      obtain ⟨u', h1, h2⟩ := rv.get e
      rw [h1] at hu; cases hu
      exact ⟨y, e, h2⟩
  | t a vs =>
    obtain ⟨its, rv, p, _⟩ := I.tuple ok
    have D := Draws.tuple (prog := X.prog) (w := X.w) hh it a (hne a (by simp [Src.ads])) its.toArray
    have hl : its.toArray.size = vs.length := by have := rv.length; simp; omega
    rw [hl] at D
    refine ⟨_, _, D, fun i h => ⟨h, p⟩, fun i h x => x.1, fun i u hu => ?_⟩
    have hu : its.toArray[i]? = some u := hu
    rw [List.getElem?_toArray] at hu
    cases e : vs[i]? with
    | none => rw [rv.none_of e] at hu; cases hu
    | some y =>
      obtain ⟨u', h1, h2⟩ := rv.get e
      rw [h1] at hu; cases hu
      exact ⟨y, e, h2⟩
  | s x =>
    obtain ⟨tk, rfl⟩ := r
    refine ⟨_, _, Draws.text (prog := X.prog) (w := X.w) hh it x tk, fun i h => ?_, fun i h y => ⟨tk, rfl, y⟩, fun i u hu => ?_⟩
    · obtain ⟨tk', e, h⟩ := h
      cases e
      exact h
    · obtain ⟨c, u', e, rfl⟩ := hu
      exact ⟨.str ⟨#[c]⟩, by simp [Src.at, e], ⟨_, rfl⟩⟩
theorem Src.begins {src : Src} {v : Value} (I : Inv X pins σ H s) (ok : src.ok X.K H) (r : RelV src.val v) : ∃ (o : Obj) (B : Heap → Prop), Begins v o B ∧ B s.heap ∧ (∀ a ∈ src.ads, a < s.heap.objs.size) ∧ ∀ (h' : Heap) (it : Addr), h'.get? it = some o → src.it v it 0 h' := by
  cases src with
  | l a vs =>
    obtain ⟨its, rv, p, _⟩ := I.list ok
    cases r
    exact ⟨_, _, begins_list a its.toArray, p.isList, fun b hb => by rw [List.mem_singleton.mp hb]; exact p.lt, fun h' it e => ⟨_, e, rfl, rfl⟩⟩
  | t a vs =>
    obtain ⟨its, rv, p, _⟩ := I.tuple ok
    cases r
    exact ⟨_, _, begins_tuple a its.toArray, p, fun b hb => by rw [List.mem_singleton.mp hb]; obtain ⟨o, e, _⟩ := p; exact Heap.lt_size e, fun h' it e => ⟨_, e, rfl, rfl⟩⟩
  | s x =>
    obtain ⟨tk, rfl⟩ := r
    exact ⟨_, _, begins_text x tk, trivial, fun b hb => (nomatch hb), fun h' it e => ⟨tk, rfl, _, e, rfl, rfl⟩⟩
end

theorem sub5 {N c : Addr} (h : c ∈ [N + 4, N + 3, N, N + 1]) : c ∈ [N + 4, N + 2, N + 3, N, N + 1] := by
  simp at h ⊢
  rcases h with h | h | h | h <;> simp [h]
/-- zip of two -/
def Itz2 (K : PySem.W.Frag) (s1 s2 : Src) : It :=
  ⟨fun i H => s1.ok K H ∧ s2.ok K H ∧ i < s1.len ∧ i < s2.len, fun i H v H' => ∃ T x y, v = .ref T ∧ H T = none ∧ H' = upd H T (.tup [x, y]) ∧ s1.at i = some x ∧ s2.at i = some y,
    fun i H => s1.ok K H ∧ s2.ok K H ∧ i = min s1.len s2.len⟩
theorem turn_zip2 {P : Program} {w : World} {K : PySem.W.Frag} {elts : List Expr} {kk N : Nat} {tpos : Pos} {s1 s2 : Src} {v1 v2 : Value} (r1 : RelV s1.val v1) (r2 : RelV s2.val v2) (h1 : ∀ a ∈ s1.ads, a < N) (h2 : ∀ a ∈ s2.ads, a < N) :
    Turn P w K (.Tuple elts kk tpos) (Itz2 K s1 s2) [N + 4, N + 2, N + 3, N, N + 1] (N + 4)
      (fun i h => IsZip h (N + 4) (N + 2) (N + 3) .none ∧ IsTupOf2 h (N + 2) (.ref N) (.ref (N + 1)) ∧ (∃ x y, IsTupOf2 h (N + 3) x y) ∧ s1.it v1 N i h ∧ s2.it v2 (N + 1) i h) where
  mem := by simp
  obj := fun i h st c hc => by
    obtain ⟨hz, hTI, ⟨x, y, hTO⟩, i1, i2⟩ := st
    have e' : c = N + 4 ∨ c = N + 2 ∨ c = N + 3 ∨ c = N ∨ c = N + 1 := by simpa using hc
    rcases e' with q | q | q | q | q
    · rw [q]; exact ⟨_, hz, fun v q => nomatch q⟩
    · rw [q]; exact ⟨_, hTI, fun v q => nomatch q⟩
    · rw [q]; exact ⟨_, hTO, fun v q => nomatch q⟩
    · rw [q]; exact Src.it_obj i1
    · rw [q]; exact Src.it_obj i2
  keep := fun i h h' st k => by
    obtain ⟨hz, hTI, ⟨x, y, hTO⟩, i1, i2⟩ := st
    exact ⟨k (N + 4) (by simp) _ hz, k (N + 2) (by simp) _ hTI, ⟨x, y, k (N + 3) (by simp) _ hTO⟩, Src.it_at i1 fun o q => k N (by simp) o q, Src.it_at i2 fun o q => k (N + 1) (by simp) o q⟩
  item := by
    intro X hP hw hK hc i pins s σ H E I hf st hg
    subst hP hw hK
    obtain ⟨hz, hTI, hTO, i1, i2⟩ := st
    obtain ⟨o1, o2, l1, l2⟩ := hg
    obtain ⟨P1, St1, D1, a1, b1, c1⟩ := Src.draws (A := X.A.in1) (it := N) (I.ok.hd hc) I o1 r1 fun a ha => Nat.ne_of_lt (h1 a ha)
    obtain ⟨P2, St2, D2, a2, b2, c2⟩ := Src.draws (A := X.A.in1) (it := N + 1) (I.ok.hd hc) I o2 r2 fun a ha => Nat.ne_of_lt (Nat.lt_succ_of_lt (h2 a ha))
    have Wz := WalksT.zipD2 (zip_sep2 h1 h2) D1 D2
    have hzl : N + 4 < s.heap.objs.size := Heap.lt_size hz
    refine Wz.item i s _ _ (by omega) ⟨hz, hTI, hTO, a1 i i1, a2 i i2⟩ fun T vals h' tk hv hT hit mid keep => ?_
    refine ⟨_, rfl, Wz.go elts kk tpos i T _ _ _ mid fun h'' st'' keep2 => ?_⟩
    obtain ⟨x1, x2, q1, q2, rfl⟩ := hv
    obtain ⟨y1, e1, ry1⟩ := c1 i x1 q1
    obtain ⟨y2, e2, ry2⟩ := c2 i x2 q2
    have napart := Wz.apart i T _ mid
    obtain ⟨oT, hT1, hT2, hT3⟩ := hit
    have hT2' : h''.get? T = some oT := keep2 T oT napart hT1
    have new : ObjOk X.prog X.w (upd H T (.tup [y1, y2])) h'' T (.tup [y1, y2]) :=
      ⟨by show 2 ≤ sizeLine; decide, [x1, x2], .cons ry1 (.cons ry2 .nil), ⟨oT, hT2', hT2, by simpa using hT3⟩⟩
    have I1 : Inv X pins σ (upd H T (.tup [y1, y2])) { s with heap := h'', toks := tk } :=
      I.turnedNew (ch := [N + 4, N + 2, N + 3, N, N + 1]) (fun c o hb q => keep2 c o (fun z => hb (sub5 z)) (keep c o (fun z => hb (sub5 z)) q)) hf hT new
    obtain ⟨z'', TI'', TO'', i1'', i2''⟩ := st''
    refine ⟨.ref T, _, I1, rfl, ⟨T, y1, y2, rfl, I.hok.fresh hT, rfl, e1, e2⟩, ⟨z'', TI'', TO'', b1 _ _ i1'', b2 _ _ i2''⟩, fun c hcm => ?_⟩
    have hlt : c < s.heap.objs.size := by
      have e' : c = N + 4 ∨ c = N + 2 ∨ c = N + 3 ∨ c = N ∨ c = N + 1 := by simpa using hcm
      have hzl' : (N : Nat) + 4 < s.heap.objs.size := hzl
      rcases e' with q | q | q | q | q <;> rw [q]
      · exact hzl
      · exact (show (N : Nat) + 2 < s.heap.objs.size by omega)
      · exact (show (N : Nat) + 3 < s.heap.objs.size by omega)
      · exact (show (N : Nat) < s.heap.objs.size by omega)
      · exact (show (N : Nat) + 1 < s.heap.objs.size by omega)
    rw [upd_ne (Nat.ne_of_lt (Nat.lt_of_lt_of_le hlt hT))]
    exact (hf c hcm).1
  done := by
    intro X hP hw hK hc i pins s σ H E I hf st hg
    subst hP hw hK
    obtain ⟨hz, hTI, hTO, i1, i2⟩ := st
    obtain ⟨o1, o2, hi⟩ := hg
    obtain ⟨P1, St1, D1, a1, b1, c1⟩ := Src.draws (A := X.A.in1) (it := N) (I.ok.hd hc) I o1 r1 fun a ha => Nat.ne_of_lt (h1 a ha)
    obtain ⟨P2, St2, D2, a2, b2, c2⟩ := Src.draws (A := X.A.in1) (it := N + 1) (I.ok.hd hc) I o2 r2 fun a ha => Nat.ne_of_lt (Nat.lt_succ_of_lt (h2 a ha))
    subst hi
    exact (WalksT.zipD2 (zip_sep2 h1 h2) D1 D2).done s _ _ ⟨hz, hTI, hTO, a1 _ i1, a2 _ i2⟩ fun h' tk keep => ⟨rfl, I.turnedL (t' := tk) (ch := [N + 4, N + 2, N + 3, N, N + 1]) (fun c o hb q => keep c o (fun z => hb (sub5 z)) q) hf⟩
  self := fun _ _ _ _ _ st h => wpAny_pyIter_zip st.1 h
/-- enumerate -/
def Ite2 (K : PySem.W.Frag) (s1 : Src) : It :=
  ⟨fun i H => s1.ok K H ∧ i < s1.len, fun i H v H' => ∃ T x, v = .ref T ∧ H T = none ∧ H' = upd H T (.tup [.int (i : Nat), x]) ∧ s1.at i = some x, fun i H => s1.ok K H ∧ i = s1.len⟩
theorem turn_enum2 {P : Program} {w : World} {K : PySem.W.Frag} {elts : List Expr} {kk N : Nat} {tpos : Pos} {s1 : Src} {v1 : Value} (r1 : RelV s1.val v1) (h1 : ∀ a ∈ s1.ads, a < N) :
    Turn P w K (.Tuple elts kk tpos) (Ite2 K s1) [N + 1, N] (N + 1) (fun i h => (∃ old, IsEnum h (N + 1) N ((i : Nat) : Int) old) ∧ s1.it v1 N i h) where
  mem := by simp
  obj := fun i h st c hc => by
    obtain ⟨⟨old, he⟩, i1⟩ := st
    have e' : c = N + 1 ∨ c = N := by simpa using hc
    rcases e' with q | q
    · rw [q]; exact ⟨_, he, fun v q => nomatch q⟩
    · rw [q]; exact Src.it_obj i1
  keep := fun i h h' st k => by
    obtain ⟨⟨old, he⟩, i1⟩ := st
    exact ⟨⟨old, k (N + 1) (by simp) _ he⟩, Src.it_at i1 fun o q => k N (by simp) o q⟩
  item := by
    intro X hP hw hK hc i pins s σ H E I hf st hg
    subst hP hw hK
    obtain ⟨he, i1⟩ := st
    obtain ⟨o1, l1⟩ := hg
    obtain ⟨P1, St1, D1, a1, b1, c1⟩ := Src.draws (A := X.A.in1) (it := N) (I.ok.hd hc) I o1 r1 fun a ha => Nat.ne_of_lt (h1 a ha)
    have hnf : N + 1 ∉ N :: s1.ads := notIn_new (N := N) (j := 1) (i := 0) h1 (by omega)
    have We := WalksT.enumerateD D1 (N + 1) (Nat.succ_ne_self N) hnf List.mem_cons_self
    have hel : N + 1 < s.heap.objs.size := by obtain ⟨_, he⟩ := he; exact Heap.lt_size he
    refine We.item i s _ _ l1 ⟨he, a1 i i1⟩ fun T vals h' tk hv hT hit mid keep => ?_
    refine ⟨_, rfl, We.go elts kk tpos i T _ _ _ mid fun h'' st'' keep2 => ?_⟩
    obtain ⟨t, x1, q1, rfl⟩ := hv
    obtain ⟨y1, e1, ry1⟩ := c1 i x1 q1
    have napart := We.apart i T _ mid
    obtain ⟨oT, hT1, hT2, hT3⟩ := hit
    have hT2' : h''.get? T = some oT := keep2 T oT napart hT1
    have new : ObjOk X.prog X.w (upd H T (.tup [.int (i : Nat), y1])) h'' T (.tup [.int (i : Nat), y1]) :=
      ⟨by show 2 ≤ sizeLine; decide, [.int i t, x1], .cons ⟨_, rfl⟩ (.cons ry1 .nil), ⟨oT, hT2', hT2, by simpa using hT3⟩⟩
    have I1 : Inv X pins σ (upd H T (.tup [.int (i : Nat), y1])) { s with heap := h'', toks := tk } :=
      I.turnedNew (ch := [N + 1, N]) (fun c o hb q => keep2 c o hb (keep c o hb q)) hf hT new
    obtain ⟨e'', i1''⟩ := st''
    refine ⟨.ref T, _, I1, rfl, ⟨T, y1, rfl, I.hok.fresh hT, rfl, e1⟩, ⟨e'', b1 _ _ i1''⟩, fun c hcm => ?_⟩
    have hlt : c < s.heap.objs.size := by
      have e' : c = N + 1 ∨ c = N := by simpa using hcm
      have hel' : (N : Nat) + 1 < s.heap.objs.size := hel
      rcases e' with q | q <;> rw [q]
      · exact hel
      · exact (show (N : Nat) < s.heap.objs.size by omega)
    rw [upd_ne (Nat.ne_of_lt (Nat.lt_of_lt_of_le hlt hT))]
    exact (hf c hcm).1
  done := by
    intro X hP hw hK hc i pins s σ H E I hf st hg
    subst hP hw hK
    obtain ⟨he, i1⟩ := st
    obtain ⟨o1, hi⟩ := hg
    obtain ⟨P1, St1, D1, a1, b1, c1⟩ := Src.draws (A := X.A.in1) (it := N) (I.ok.hd hc) I o1 r1 fun a ha => Nat.ne_of_lt (h1 a ha)
    have hnf : N + 1 ∉ N :: s1.ads := notIn_new (N := N) (j := 1) (i := 0) h1 (by omega)
    subst hi
    exact (WalksT.enumerateD D1 (N + 1) (Nat.succ_ne_self N) hnf List.mem_cons_self).done s _ _ ⟨he, a1 _ i1⟩ fun h' tk keep => ⟨rfl, I.turnedL (t' := tk) (ch := [N + 1, N]) (fun c o hb q => keep c o hb q) hf⟩
  self := fun _ _ _ _ _ st h => by obtain ⟨⟨_, he⟩, _⟩ := st; exact wpAny_pyIter_enum he h
/-- enumerate(v) begins -/
theorem meets_enumerate_new1 {v : Value} {o : Obj} {H : Heap → Prop} (B : Begins v o H) :
    Meets (Builtin.«enumerate.__new__» ⟨[.type "enumerate", v], []⟩) (fun _ R s => H s.heap ∧
      R (.ok (.ret (.ref (s.heap.push o).objs.size))) { s with heap := (s.heap.push o).push { cls := .type "enumerate", data := .fields #[.none, .bool false, .ref s.heap.objs.size, rawInt 0, .none, .none] } }) :=
  .of_wp fun prog w A R s h => by
    obtain ⟨hp, g, d, tk, os⟩ := s; obtain ⟨h1, h⟩ := h
    have hsub := sub_enumerate
    have q1 : ∀ {A' : Around} {E : Value → Shared → Prop} {Q : Value → Shared → Prop}, Q (.ref hp.objs.size) ⟨hp.push o, g, d, tk, os⟩ → wpAny (model prog w) A' (pyIter v) Q E ⟨hp, g, d, tk, os⟩ :=
      fun q => B.iter prog w _ _ ⟨hp, g, d, tk, os⟩ _ h1 q
    wp_walk using q1
    refine wpAny_stack_any fun st => wpAny_pure ?_
    split
    · rename_i c _ _ _ _ _
      cases (c == Value.type "enumerate")
      · wp_walk using q1
        exact ⟨_, rfl, h⟩
      · wp_walk using q1
        exact ⟨_, rfl, h⟩
    · wp_walk using q1
      exact ⟨_, rfl, h⟩
section
variable {prog : Program} {w : World} {A : Around} {E : Value → Shared → Prop} {s : Shared}
theorem enum_begins1 {v : Value} {o : Obj} {H : Heap → Prop} {Q : Value → Shared → Prop} (B : Begins v o H) (h1 : H s.heap)
    (h : ∀ h', IsEnum h' (s.heap.objs.size + 1) s.heap.objs.size 0 .none → h'.get? s.heap.objs.size = some o → h'.objs.size = s.heap.objs.size + 2 →
      (∀ b o, s.heap.get? b = some o → h'.get? b = some o) → Q (.ref (s.heap.objs.size + 1)) { s with heap := h' }) :
    wpAny (model prog w) A (call (.type "enumerate") [v]) Q E s := by
  refine callType_new F.called_enumerate (by decide) (F.typeCall_enumerate_1 _) (F.newCall_enumerate_1 _) (fun obj => F.args_object_init_2 obj _) F.entry_enumerate_new
    (meets_enumerate_new1 B) ⟨h1, ?_⟩
  have hz : (s.heap.push o).objs.size = s.heap.objs.size + 1 := Heap.size_push ..
  show _ ∧ _
  rw [hz]
  have he : IsEnum ((s.heap.push o).push { cls := .type "enumerate", data := .fields #[.none, .bool false, .ref s.heap.objs.size, rawInt 0, .none, .none] }) (s.heap.objs.size + 1) s.heap.objs.size 0 .none := by
    have := Heap.get?_push_size (s.heap.push o) (o := { cls := .type "enumerate", data := .fields #[.none, .bool false, .ref s.heap.objs.size, rawInt 0, .none, .none] }) rfl
    rw [hz] at this; exact this
  refine ⟨⟨_, he, rfl⟩, h _ he (Heap.get?_push_of_some _ (Heap.get?_push_size _ B.free)) (by rw [Heap.size_push, hz]) fun b o x => Heap.get?_push_of_some _ (Heap.get?_push_of_some _ x)⟩
end
section
variable {X : Cx} {e e2 : Expr} {p pos tpos : Pos} {elts : List Expr} {kk : Nat} {fs : EvA} {ta : TA}
def iZip2 (K : PySem.W.Frag) (ta : TA) : TI := fun σ H R => ta σ H fun vs H1 => ∃ s1 s2, vs = [Src.val s1, Src.val s2] ∧ s1.ok K H1 ∧ s2.ok K H1 ∧ R (Itz2 K s1 s2) H1
theorem pi_zip2 (hg : Gl X "zip") (hm : X.mg "zip" = none) (ha : PA X [e, e2] ta)
    (hs : starEach [e, e2] X.env = (false, eval e X.env) :: starEach [e2] X.env) (hpl : (backTo pos (starEach [e2] X.env)).any (·.1) = false) :
    PI X (.Tuple elts kk tpos) (.Call (.Name "zip" p) [e, e2] [] pos) (iZip2 X.K ta) := by
  refine ⟨fun pins s σ H R I h => ?_⟩
  refine Call_ (ld_blt I hg hm PyProof.Rows.boot_zip (PyProof.Rows.callWith_type1 (thn (ha.run pos pins s σ H _ I h) fun us s1 ⟨vs, H1, I1, r1, q1⟩ => ?_) hs hpl))
  obtain ⟨a, b, ex, oa, ob, q⟩ := q1
  subst ex
  obtain ⟨u1, u2, rfl, ra, rb⟩ := Vals.two r1
  obtain ⟨oA, BA, ba, bha, la, ita⟩ := Src.begins I1 oa ra
  obtain ⟨oB, BB, bb, bhb, lb, itb⟩ := Src.begins I1 ob rb
  refine zip_begins2 ba bb bha bhb fun h' hz hTI hTO h1 h2 hsz hk => wpAny_pyIter_zip hz ?_
  have I2 : Inv X pins σ H1 { s1 with heap := h' } := I1.kept (t' := s1.toks) hk
  refine ⟨s1.heap.objs.size + 4, [s1.heap.objs.size + 4, s1.heap.objs.size + 2, s1.heap.objs.size + 3, s1.heap.objs.size, s1.heap.objs.size + 1], _, _, H1, rfl, I2, turn_zip2 ra rb la lb, ⟨hz, hTI, ⟨_, _, hTO⟩, ita _ _ h1, itb _ _ h2⟩, fun c hcm => ?_, q⟩
  have e' : c = s1.heap.objs.size + 4 ∨ c = s1.heap.objs.size + 2 ∨ c = s1.heap.objs.size + 3 ∨ c = s1.heap.objs.size ∨ c = s1.heap.objs.size + 1 := by simpa using hcm
  have hle : s1.heap.objs.size ≤ c := by
    rcases e' with z | z | z | z | z
    · rw [z]; exact Nat.le_add_right _ _
    · rw [z]; exact Nat.le_add_right _ _
    · rw [z]; exact Nat.le_add_right _ _
    · rw [z]; exact Nat.le_refl _
    · rw [z]; exact Nat.le_add_right _ _
  exact I1.fpOk hle (I1.hok.fresh hle)
def iEnum2 (K : PySem.W.Frag) (ta : TA) : TI := fun σ H R => ta σ H fun vs H1 => ∃ s1, vs = [Src.val s1] ∧ s1.ok K H1 ∧ R (Ite2 K s1) H1
theorem pi_enum2 (hg : Gl X "enumerate") (hm : X.mg "enumerate" = none) (ha : PA X [e] ta) (hs : starEach [e] X.env = [(false, eval e X.env)]) :
    PI X (.Tuple elts kk tpos) (.Call (.Name "enumerate" p) [e] [] pos) (iEnum2 X.K ta) := by
  refine ⟨fun pins s σ H R I h => ?_⟩
  refine Call_ (ld_blt I hg hm boot_enumerate (PyProof.Rows.callWith_type1 (thn (ha.run pos pins s σ H _ I h) fun us s1 ⟨vs, H1, I1, r1, q1⟩ => ?_) hs rfl))
  obtain ⟨a, ex, oa, q⟩ := q1
  subst ex
  obtain ⟨u1, rfl, ra⟩ := Vals.one r1
  obtain ⟨oA, BA, ba, bha, la, ita⟩ := Src.begins I1 oa ra
  refine enum_begins1 ba bha fun h' he h1 hsz hk => wpAny_pyIter_enum he ?_
  have I2 : Inv X pins σ H1 { s1 with heap := h' } := I1.kept (t' := s1.toks) hk
  refine ⟨s1.heap.objs.size + 1, [s1.heap.objs.size + 1, s1.heap.objs.size], _, _, H1, rfl, I2, turn_enum2 ra la, ⟨⟨_, he⟩, ita _ _ h1⟩, fun c hcm => ?_, q⟩
  have e' : c = s1.heap.objs.size + 1 ∨ c = s1.heap.objs.size := by simpa using hcm
  have hle : s1.heap.objs.size ≤ c := by
    rcases e' with z | z
    · rw [z]; exact Nat.le_add_right _ _
    · rw [z]; exact Nat.le_refl _
  exact I1.fpOk hle (I1.hok.fresh hle)
end

/-- the items of a datum -/
def P.items : P → Option (List P)
  | .lst ps => some ps
  | .tup ps => some ps
  | .str s => some (chars s)
  | _ => none
def iZip (fs : EvA) : EvI := fun σ M => (fs σ M).bind fun ds M1 => match ds with
  | [.p a, .p b] => (match a.items, b.items with
    | some xs, some ys => .ok (List.zipWith (fun x y => P.tup [x, y]) xs ys) M1
    | _, _ => .no)
  | _ => .no
def iEnum (fs : EvA) : EvI := fun σ M => (fs σ M).bind fun ds M1 => match ds with
  | [.p a] => (match a.items with
    | some xs => .ok (xs.zipIdx.map fun x => P.tup [.int (x.2 : Nat), x.1]) M1
    | _ => .no)
  | _ => .no
/-- a source that stands for a datum -/
theorem src_of {g : Mg} {K : PySem.W.Frag} {H : Hp} {mu : List Addr} {p : P} {v : V} {xs : List P} (r : Rep g H mu p v) (e : p.items = some xs) :
    ∃ s : Src, v = s.val ∧ s.len = xs.length ∧ ∀ H2 mu2, Le H mu H2 mu2 → s.ok K H2 ∧ ∀ i x, xs[i]? = some x → ∃ y, s.at i = some y ∧ Rep g H2 mu2 x y := by
  cases p with
  | lst ps =>
    cases e
    unfold Rep at r
    obtain ⟨a, vs, rfl, h0, h1, h2⟩ := r
    exact ⟨.l a vs, rfl, h2.length, fun H2 mu2 l => ⟨.of (l.keep a _ h0 (by intro ps z; cases z) h1), fun i x hx => (h2.mono l).get hx⟩⟩
  | tup ps =>
    cases e
    unfold Rep at r
    obtain ⟨a, vs, rfl, h0, h1, h2⟩ := r
    exact ⟨.t a vs, rfl, h2.length, fun H2 mu2 l => ⟨.of (l.keep a _ h0 (by intro ps z; cases z) h1), fun i x hx => (h2.mono l).get hx⟩⟩
  | str s =>
    cases e
    unfold Rep at r
    refine ⟨.s s, r, by simp [chars, Src.len], fun H2 mu2 l => ⟨trivial, fun i x hx => ?_⟩⟩
    simp only [chars, List.getElem?_map, Array.getElem?_toList, Option.map_eq_some_iff] at hx
    obtain ⟨c, e1, rfl⟩ := hx
    exact ⟨.str ⟨#[c]⟩, by simp [Src.at, e1], by unfold Rep; rfl⟩
  | _ => cases e
section
variable {X : Cx} {e e2 : Expr} {p pos tpos : Pos} {elts : List Expr} {kk : Nat} {fs : EvA}
theorem piv_zip (hg : Gl X "zip") (hm : X.mg "zip" = none) (ha : PAv X [e, e2] fs)
    (hs : starEach [e, e2] X.env = (false, eval e X.env) :: starEach [e2] X.env) (hpl : (backTo pos (starEach [e2] X.env)).any (·.1) = false) : PIv X (.Tuple elts kk tpos) (.Call (.Name "zip" p) [e, e2] [] pos) (iZip fs) := fun W tk => by
  refine PI.imp (pi_zip2 hg hm (ha W tk) hs hpl) fun τ H R ⟨σ, M, mu, s, st, h⟩ => ⟨σ, M, mu, s, st, ?_⟩
  refine PostA.mono (PostA.bindI h) fun vs H1 ⟨mu1, ds, M1, l1, st1, r1, h1⟩ => ?_
  try dsimp only at h1
  split at h1
  · split at h1
    · rename_i a b xs ys ea eb
      obtain ⟨v, r, rfl, k1, w, r', k3, k2, k4⟩ := r1
      subst k3
      rw [show r' = [] from k4]
      obtain ⟨s1, rfl, n1, o1⟩ := src_of (K := X.K) k1 ea
      obtain ⟨s2, rfl, n2, o2⟩ := src_of (K := X.K) k2 eb
      refine ⟨s1, s2, rfl, (o1 _ _ (Le.refl _ _)).1, (o2 _ _ (Le.refl _ _)).1, h1 _ H1 mu1 (Le.refl _ _) st1 fun H2 mu2 l hfr => ?_⟩
      obtain ⟨p1, p2⟩ := o1 H2 mu2 l
      obtain ⟨q1, q2⟩ := o2 H2 mu2 l
      rw [List.length_zipWith]
      refine ⟨fun i hi => ⟨p1, q1, by omega, by omega⟩, ⟨p1, q1, by omega⟩, fun i x H3 hi ⟨T, y1, y2, e1, e2, e3, e4, e5⟩ => ⟨.inr ⟨T, _, e2, e3⟩, fun p hp keep => ?_⟩⟩
      have hx : i < xs.length := by omega
      have hy : i < ys.length := by omega
      rw [List.getElem?_zipWith] at hp
      rw [List.getElem?_eq_getElem hx, List.getElem?_eq_getElem hy] at hp
      cases hp
      obtain ⟨z1, f1, f2⟩ := p2 i _ (List.getElem?_eq_getElem hx)
      obtain ⟨z2, f3, f4⟩ := q2 i _ (List.getElem?_eq_getElem hy)
      rw [e4] at f1; cases f1
      rw [e5] at f3; cases f3
      subst e1 e3
      have lu : Le H2 mu2 (L2.upd H2 T (.tup [y1, y2])) mu2 := Le.upd e2
      unfold Rep
      exact ⟨T, _, rfl, hfr T e2, upd_same, RepL.cons (f2.mono lu) (RepL.one (f4.mono lu))⟩
    · exact h1.elim
  · exact h1.elim
theorem piv_enum (hg : Gl X "enumerate") (hm : X.mg "enumerate" = none) (ha : PAv X [e] fs) (hs : starEach [e] X.env = [(false, eval e X.env)]) : PIv X (.Tuple elts kk tpos) (.Call (.Name "enumerate" p) [e] [] pos) (iEnum fs) := fun W tk => by
  refine PI.imp (pi_enum2 hg hm (ha W tk) hs) fun τ H R ⟨σ, M, mu, s, st, h⟩ => ⟨σ, M, mu, s, st, ?_⟩
  refine PostA.mono (PostA.bindI h) fun vs H1 ⟨mu1, ds, M1, l1, st1, r1, h1⟩ => ?_
  try dsimp only at h1
  split at h1
  · split at h1
    · rename_i a xs ea
      obtain ⟨v, r, rfl, k1, k4⟩ := r1
      rw [show r = [] from k4]
      obtain ⟨s1, rfl, n1, o1⟩ := src_of (K := X.K) k1 ea
      refine ⟨s1, rfl, (o1 _ _ (Le.refl _ _)).1, h1 _ H1 mu1 (Le.refl _ _) st1 fun H2 mu2 l hfr => ?_⟩
      obtain ⟨p1, p2⟩ := o1 H2 mu2 l
      rw [List.length_map, List.length_zipIdx]
      refine ⟨fun i hi => ⟨p1, by omega⟩, ⟨p1, by omega⟩, fun i x H3 hi ⟨T, y1, e1, e2, e3, e4⟩ => ⟨.inr ⟨T, _, e2, e3⟩, fun p hp keep => ?_⟩⟩
      rw [List.getElem?_map, List.getElem?_zipIdx, List.getElem?_eq_getElem hi] at hp
      simp only [Option.map_some, Option.some.injEq, Nat.zero_add] at hp
      subst hp
      obtain ⟨z1, f1, f2⟩ := p2 i _ (List.getElem?_eq_getElem hi)
      rw [e4] at f1; cases f1
      subst e1 e3
      have lu : Le H2 mu2 (L2.upd H2 T (.tup [.int (i : Nat), y1])) mu2 := Le.upd e2
      unfold Rep
      exact ⟨T, _, rfl, hfr T e2, upd_same, RepL.cons (by unfold Rep; rfl) (RepL.one (f2.mono lu))⟩
    · exact h1.elim
  · exact h1.elim
end
end Ev

set_option Elab.async false
set_option linter.all false
set_option maxRecDepth 100000
set_option maxHeartbeats 4000000
/-! Core10: isinstance, raise, parallel assignment, += of tuples. -/
namespace Ev
open PySem PySem.Spec PyProof.Rows L2

/-! ### tuple += tuple -/
theorem noI_tuple_add : typeLookup (.type "tuple") (dunderI "add") = pure none := by rw [typeLookup_type, builtinLookup_eq_fast]; kernel_rfl
section
variable {prog : Program} {w : World} {A : Around} {E : Value → Shared → Prop} {s : Shared}
theorem iconcat_meets {T id : String} {B : Builtin} {a b : Value} {S : PySem.Spec} {Q : Value → Shared → Prop} (ha : s.TypeIs a T) (hb : s.TypeIs b T) (hno : typeLookup (.type T) (dunderI "add") = pure none)
    (hfill : fillsNumberSlot (.type T) "add" = pure false) (hseq : seqSlot? (.type T) "__add__" = pure (some (.builtin id))) (slot : Slot T "__add__" id)
    (entry : entryFor table id = some B) (args : argsOk id ⟨[a, b], []⟩) (g : Meets (B ⟨[a, b], []⟩) S) (h : S A (wants Q E) s) : wpAny (model prog w) A (inplaceOp .Add a b) Q E s :=
  wpAny_inplaceOp_concat ha hb hno hfill hseq (call_meets slot ha entry args g h)
theorem icat_tup {t b : Addr} {vs ws : List Value} {Q : Value → Shared → Prop} (ht : IsTup s.heap t vs.toArray) (hb : IsTup s.heap b ws.toArray)
    (h0 : vs = [] → Q (.ref b) s) (h1 : vs ≠ [] → ws = [] → Q (.ref t) s) (h2 : vs ≠ [] → ws ≠ [] → Q (.ref s.heap.objs.size) { s with heap := s.heap.push { cls := .type "tuple", data := .seq (vs ++ ws).toArray } })
    (hsz : vs.length + ws.length ≤ sizeLine) : wpAny (model prog w) A (inplaceOp .Add (.ref t) (.ref b)) Q E s := by
  obtain ⟨⟨cls, dd, data, sl⟩, ho, hc, n, hd⟩ := id ht
  obtain ⟨⟨cls2, dd2, data2, sl2⟩, ho2, hc2, n2, hd2⟩ := id hb
  simp only at hc hd hc2 hd2
  subst hc hd hc2 hd2
  have e : vs.toArray ++ ws.toArray = (vs ++ ws).toArray := by simp
  by_cases hv : vs = []
  · exact iconcat_meets ⟨_, ho, rfl⟩ ⟨_, ho2, rfl⟩ noI_tuple_add noFill_tuple_add seq_tuple_add PySem.F.slot_tuple_add PySem.F.entry_tuple_add (PySem.F.args_tuple_add_2 _ _)
      (tuple_addW0 t b vs.toArray ws.toArray n n2 dd dd2 sl sl2 (by simp [hv])) ⟨ho, ho2, h0 hv⟩
  by_cases hw : ws = []
  · exact iconcat_meets ⟨_, ho, rfl⟩ ⟨_, ho2, rfl⟩ noI_tuple_add noFill_tuple_add seq_tuple_add PySem.F.slot_tuple_add PySem.F.entry_tuple_add (PySem.F.args_tuple_add_2 _ _)
      (tuple_addW1 t b vs.toArray ws.toArray n n2 dd dd2 sl sl2 (by simpa using hv) (by simp [hw])) ⟨ho, ho2, h1 hv hw⟩
  · refine iconcat_meets ⟨_, ho, rfl⟩ ⟨_, ho2, rfl⟩ noI_tuple_add noFill_tuple_add seq_tuple_add PySem.F.slot_tuple_add PySem.F.entry_tuple_add (PySem.F.args_tuple_add_2 _ _)
      (tuple_addW2 t b vs.toArray ws.toArray n n2 dd dd2 sl sl2 (by simpa using hv) (by simpa using hw) (by rw [List.size_toArray, List.size_toArray]; exact hsz)) ⟨ho, ho2, ?_⟩
    rw [e]
    exact h2 hv hw
end
section
variable {X : Cx}
theorem iop_catA : OpR X (inplaceOp .Add) (rCatA X.K) := by
  intro pins s σ H x y v u Q I rx ry h
  obtain ⟨a, b, xs, ys, rfl, rfl, ha, hb, hz, q0, q1, q2⟩ := h
  cases rx
  cases ry
  obtain ⟨its, r1, p1, _⟩ := I.tuple ha
  obtain ⟨its2, r2, p2, _⟩ := I.tuple hb
  have n1 : its = [] ↔ xs = [] := r1.nil_iff
  have n2 : its2 = [] ↔ ys = [] := r2.nil_iff
  refine icat_tup p1 p2 (fun z => ⟨V.ref b, H, I, rfl, q0 (n1.mp z)⟩) (fun z z2 => ⟨V.ref a, H, I, rfl, q1 (fun k => z (n1.mpr k)) (n2.mp z2)⟩) (fun z z2 => ?_) (by rw [← r1.length, ← r2.length]; exact hz)
  have hp : H s.heap.objs.size = none := I.hok.fresh (Nat.le_refl _)
  refine ⟨.ref s.heap.objs.size, _, I.laid (t' := s.toks) (a := s.heap.objs.size) (o := .tup (xs ++ ys)) (fun b o e => Heap.get?_push_of_some _ e) (Nat.le_refl _) ⟨by rw [List.length_append]; exact hz, its ++ its2, r1.append r2, ⟨_, Heap.get?_push_size _ rfl, rfl, _, rfl⟩⟩, rfl, q2 (fun k => z (n1.mpr k)) (fun k => z2 (n2.mpr k)) _ hp⟩
def oIadd : P → P → Option D
  | .int i, .int j => some (.p (.int (i + j)))
  | .str a, .str b => if a.length + b.length ≤ lim then some (.p (.str (a ++ b))) else none
  | .tup a, .tup b => if a.length + b.length ≤ lim then some (.p (.tup (a ++ b))) else none
  | _, _ => none
theorem o_iadd : Op2 X (inplaceOp .Add) oIadd := by
  refine OpR.imp ((iop_add.or iop_add_str).or iop_catA) fun x y H Q h => ?_
  obtain ⟨mu, M, p, q, d, st, rx, ry, e, hq⟩ := h
  unfold oIadd at e
  split at e
  · cases e
    exact .inl (.inl ⟨_, _, rd_int rx, rd_int ry, hq _ H (Le.refl _ _) (post_int st)⟩)
  · split at e
    · rename_i hl
      cases e
      exact .inl (.inr ⟨_, _, rd_str rx, rd_str ry, lim_le hl, hq _ H (Le.refl _ _) (post_str st)⟩)
    · cases e
  · split at e
    · rename_i hl
      cases e
      obtain ⟨a, vs, rfl, ha, h1, h2⟩ := rd_tup rx
      obtain ⟨b, ws, rfl, hb, k1, k2⟩ := rd_tup ry
      refine .inr ⟨a, b, vs, ws, rfl, rfl, .of h1, .of k1, ?_, fun z => ?_, fun _ z => ?_, fun _ _ p hp => hq _ _ (Le.upd hp) (post_tup st hp (h2.append k2))⟩
      · rw [h2.length, k2.length]
        exact lim_le hl
      · have z' := h2.length
        rw [z] at z'
        have z2 := List.eq_nil_of_length_eq_zero z'.symm
        subst z2
        refine hq _ H (Le.refl _ _) ⟨st, ?_⟩
        show Rep _ _ _ _ _
        unfold Rep
        exact ⟨b, ws, rfl, hb, k1, k2⟩
      · have z' := k2.length
        rw [z] at z'
        have z2 := List.eq_nil_of_length_eq_zero z'.symm
        subst z2
        refine hq _ H (Le.refl _ _) ⟨st, ?_⟩
        show Rep _ _ _ _ _
        unfold Rep
        rw [List.append_nil]
        exact ⟨a, vs, rfl, ha, h1, h2⟩
    · cases e
  · cases e
theorem iop_sub_bi : OpR X (inplaceOp .Sub) (fun x y H Q => ∃ k i, x = .bl k ∧ y = .int i ∧ Q (.int (b2i k - i)) H) := by
  intro pins s σ H x y v u Q I rx ry h
  obtain ⟨k, i, rfl, rfl, q⟩ := h
  obtain ⟨t, rfl⟩ := ry
  cases rx
  exact IntBool.isub_bool_int ⟨.int (b2i k - i), H, I.tok _, ⟨_, rfl⟩, q⟩
theorem o_isub : Op2 X (inplaceOp .Sub) oSub := OpR.imp (iop_sub.or iop_sub_bi) fun x y H Q h => by
  obtain ⟨mu, M, p, q, d, st, rx, ry, e, hq⟩ := h
  unfold oSub at e
  split at e
  · cases e
    exact .inl ⟨_, _, rd_int rx, rd_int ry, hq _ H (Le.refl _ _) ⟨st, by show Rep _ _ _ _ _; unfold Rep; rfl⟩⟩
  · cases e
    exact .inr ⟨_, _, rd_bl rx, rd_int ry, hq _ H (Le.refl _ _) ⟨st, by show Rep _ _ _ _ _; unfold Rep; rfl⟩⟩
  · cases e
theorem o_imod : Op2 X (inplaceOp .Mod) oMod := op2_int iop_mod fun p q d e => by
  unfold oMod at e
  split at e
  · split at e
    · cases e; exact ⟨_, _, _, rfl, rfl, rfl, by assumption, fun H mu => by unfold Rep; rfl⟩
    · cases e
  · cases e
end

/-! ### isinstance(x, T), T a built-in type -/
def P.ty : P → Option String
  | .non => some "NoneType"
  | .bl _ => some "bool"
  | .int _ => some "int"
  | .str _ => some "str"
  | .tup _ => some "tuple"
  | .lst _ => some "list"
  | .scr _ => some "list"
  | .adr _ => none
  | .fn _ => none
/-- is a value of type a a T? -/
def isiB (a T : String) : Bool := a == T || (a == "bool" && T == "int")
def tyOk (T : String) : Bool := T == "int" || T == "str" || T == "tuple" || T == "bool" || T == "list"
theorem isiB_ok : ∀ a ∈ ["NoneType", "bool", "int", "str", "tuple", "list"], ∀ T ∈ ["int", "str", "tuple", "bool", "list"], kitB a T = some (isiB a T) := by decide +kernel
theorem ty_mem {p : P} {a : String} (h : p.ty = some a) : a ∈ ["NoneType", "bool", "int", "str", "tuple", "list"] := by
  cases p <;> cases h <;> simp
theorem tyOk_mem {T : String} (h : tyOk T = true) : T ∈ ["int", "str", "tuple", "bool", "list"] := by
  simp only [tyOk, Bool.or_eq_true, beq_iff_eq] at h
  rcases h with (((h | h) | h) | h) | h <;> simp [h]
def eIsi (T : String) (f : EvD) : EvD := fun σ M => (f σ M).bind fun d M1 => match d.get M1 with
  | some p => (match p.ty with
    | some a => .ok (.p (.bl (isiB a T))) M1
    | none => .no)
  | none => .no
theorem ty_rd {g : Mg} {H : Hp} {mu : List Addr} {p : P} {v : V} {a : String} (r : RdP g H mu p v) (h : p.ty = some a) : TyX g.K H v (.type a) := by
  cases p with
  | non => cases h; rw [rd_non r]; exact .base .non
  | bl b => cases h; rw [rd_bl r]; exact .base (.bl b)
  | int b => cases h; rw [rd_int r]; exact .base (.int b)
  | str b => cases h; rw [rd_str r]; exact .base (.str b)
  | tup ps => cases h; obtain ⟨x, vs, rfl, _, h1, h2⟩ := rd_tup r; exact .base (.tup h1)
  | lst ps => cases h; obtain ⟨x, vs, rfl, h1, h2⟩ := rd_lst r; exact .base (.lst h1)
  | scr ns =>
    cases h
    obtain ⟨x, rfl, (h1 | ⟨o, h1⟩) | ⟨o, its, n, h1, h2, h3⟩⟩ := scr_inv r
    · exact .base (.lst h1)
    · exact .base (.frz h1)
    · exact .kList h1 h2
  | fn _ => cases h
  | adr _ => cases h
section
variable {X : Cx} {e : Expr} {f : EvD} {T : String} {x : Str} {p p2 pos : Pos}
theorem pv_isi (hg : Gl X "isinstance") (hm : X.mg "isinstance" = none) (hT : tyOk T = true) (hgT : Gl X x) (hmT : X.mg x = none) (hv : bootBuiltins x = some (.type T)) (hx : x ≠ "__name__") (hd : (x == ("__debug__" : Str)) = false) (hp : PEv X e f)
    (he : starEach [e, .Name x p2] X.env = (false, eval e X.env) :: starEach [.Name x p2] X.env) : PEv X (.Call (.Name "isinstance" p) [e, .Name x p2] [] pos) (eIsi T f) := fun W tk => by
  have ha : PA X [e, .Name x p2] (tCons (tE X.g W f) (tCons (tC (.ty T)) tNil)) := pa_cons (hp W tk) (pa_cons (pe_bltn hgT hmT hv rfl hx hd) pa_nil) he
  refine PE.imp (pe_callB call_isi hg hm (by decide +kernel) ha (by decide) (by decide) he) fun τ H Q ⟨σ, M, mu, s, st, h⟩ => ?_
  refine ⟨σ, M, mu, s, st, (PostO.bind h).mono fun v H1 ⟨mu1, d, M1, l1, st1, r1, h1⟩ => ?_⟩
  try dsimp only at h1
  split at h1
  · rename_i q hq
    split at h1
    · rename_i a ea
      have rd := r1.get st1 (by rw [get_val]; exact hq)
      exact ⟨v, .ty T, .type a, .type T, isiB a T, rfl, .ty T, ty_rd rd ea, kit_ty (isiB_ok a (ty_mem ea) T (tyOk_mem hT)), h1 _ H1 mu1 (Le.refl _ _) (post_bl st1)⟩
    · exact h1.elim
  · exact h1.elim
end

/-! ### raise X('m') -/
def ExcG (K : PySem.W.Frag) (mg : Str → Option Value) (x : Str) : Prop := ∃ (C : Addr) (bmB : List Value) (B newId initId : String), ExcBaseFacts B newId initId bmB ∧ PySem.W.excIn K C bmB newId = true ∧ mg x = some (.ref C) ∧ PySem.W.keepIn K (.ref C) = true ∧
  PySem.W.subIn K (.ref C) (.type "BaseException") = some true ∧ PySem.W.typeIn K (.ref C) = some (.type "type")
section
variable {X : Cx} {x m : Str} {j : Nat} {p p2 pos pos2 : Pos}
theorem psv_raise (hc : X.calm = true) (hx : ExcG X.K X.mg x) (hg : Gl X x) (hdb : (x == ("__debug__" : Str)) = false) : PSv X (.Raise (some (.Call (.Name x p) [.Constant (.str m) j p2] [] pos)) none pos2) (sRaise x) := fun W tk => by
  obtain ⟨C, bmB, B, newId, initId, F, q, gC, kC, r1, r2⟩ := hx
  refine PS.imp (L2N.ps_raise hc tk (L2N.pmk_own F q gC kC (raises_own r1 r2) hg hdb)) fun D τ H ⟨σ, M, mu, s, st, h⟩ => ?_
  exact h (.ref C) none τ H mu (Le.refl _ _) s st ⟨C, gC, rfl, rfl⟩
end

/-! ### an argument whose list will change -/
def aConsM (f : EvD) (r : EvA) : EvA := fun σ M => (f σ M).bind fun d M1 => match d with
  | .nw ps => (r σ (M1 ++ [.lst ps])).bind fun ds M2 => .ok (.loc M1.length :: ds) M2
  | d => (r σ M1).bind fun ds M2 => .ok (d :: ds) M2
section
variable {X : Cx} {e : Expr} {es : List Expr} {f : EvD} {r : EvA}
theorem pav_consM (ha : PEv X e f) (hr : PAv X es r) (hs : starEach (e :: es) X.env = (false, eval e X.env) :: starEach es X.env) : PAv X (e :: es) (aConsM f r) := fun W tk =>
  PA.imp (pa_cons (ha W tk) (hr W tk) hs) fun τ H Q ⟨σ, M, mu, s, st, h⟩ => by
    refine ⟨σ, M, mu, s, st, ?_⟩
    unfold aConsM at h
    cases e : f σ M with
    | ok d M1 =>
      rw [e] at h
      intro v H1 mu1 l1 p1
      cases d with
      | nw ps =>
        obtain ⟨p, vs, rfl, hp, hpm, h1, h2, h3⟩ := p1
        have l2 := le_push l1 hp
        have st1 : StoOk X.g H1 (mu1 ++ [p]) (mu1 ++ [p]) (M1 ++ [.lst ps]) := h3.push hpm ⟨vs, h1, h2⟩
        refine ⟨σ, M1 ++ [.lst ps], mu1 ++ [p], s.mono l2, st1, (PostA.bindA (PostA.shift l2 h)).mono fun ws H2 ⟨mu2, ds, M2, l3, st2, r2, k⟩ => ?_⟩
        refine k (.ref p :: ws) H2 mu2 (Le.refl _ _) st2 ⟨.ref p, ws, rfl, RepD.mono l3 ⟨p, ?_, rfl⟩, r2⟩
        rw [← h3.len, List.getElem?_append_right (Nat.le_refl _), Nat.sub_self]
        rfl
      | p q =>
        refine ⟨σ, M1, mu1, s.mono l1, p1.val.1, (PostA.bindA (PostA.shift l1 h)).mono fun ws H2 ⟨mu2, ds, M2, l3, st2, r2, k⟩ => ?_⟩
        exact k (v :: ws) H2 mu2 (Le.refl _ _) st2 ⟨v, ws, rfl, RepD.mono l3 p1.val.2, r2⟩
      | loc q =>
        refine ⟨σ, M1, mu1, s.mono l1, p1.val.1, (PostA.bindA (PostA.shift l1 h)).mono fun ws H2 ⟨mu2, ds, M2, l3, st2, r2, k⟩ => ?_⟩
        exact k (v :: ws) H2 mu2 (Le.refl _ _) st2 ⟨v, ws, rfl, RepD.mono l3 p1.val.2, r2⟩
    | er c n M1 => rw [e] at h; exact h
    | no => rw [e] at h; exact h
end
def aConsX (b : Bool) (f : EvD) (r : EvA) : EvA := if b = true then aConsM f r else aCons f r
theorem pav_consX {X : Cx} {e : Expr} {es : List Expr} {f : EvD} {r : EvA} {b : Bool} (ha : PEv X e f) (hr : PAv X es r) (hs : starEach (e :: es) X.env = (false, eval e X.env) :: starEach es X.env) : PAv X (e :: es) (aConsX b f r) := by
  cases b
  · exact pav_cons ha hr hs
  · exact pav_consM ha hr hs

/-! ### a, b = x, y -/
def sPar (ids : List Nat) (fs : EvA) : EvS := fun σ M => (fs σ M).toS σ fun ds M1 => if ds.length = ids.length then .ok (.nx ((ids.zip ds).foldl (fun σ x => σ.set x.1 (some x.2)) σ)) M1 else .no
section
variable {X : Cx}
theorem psv_par {i j : Nat} {x y : Str} {a b : Expr} {fs : EvA} {px py pt pos : Pos} {kt k2 pt2} (hc : X.calm = true) (hN : X.N.Nodup) (hi : X.N[i]? = some x) (hj : X.N[j]? = some y) (hij : i ≠ j)
    (hx : X.env.scope.names.lookup x = some .local) (hy : X.env.scope.names.lookup y = some .local) (ha : PAv X [a, b] fs)
    (hw : swappedStores [.Tuple [.Name x px, .Name y py] kt pt] (.Tuple [a, b] k2 pt2) X.env = pure (some [x, y]))
    (hs : swapsWithSole [.Tuple [.Name x px, .Name y py] kt pt] (.Tuple [a, b] k2 pt2) pos.line X.env = pure false) :
    PSv X (.Assign [.Tuple [.Name x px, .Name y py] kt pt] (.Tuple [a, b] k2 pt2) pos) (sPar [i, j] fs) := fun W tk =>
  PS.imp (ps_par hc hN hi hj hij hx hy (ha W tk) hw hs) fun D τ H ⟨σ, M, mu, s, st, h⟩ => by
    refine ⟨σ, M, mu, s, st, (PostA.bindS s h).mono fun vs H1 ⟨mu1, ds, M1, l1, st1, r1, h1⟩ => ?_⟩
    split at h1
    · rename_i hl
      match ds, hl, r1, h1 with
      | [d, e], _, ⟨v, r, e1, k1, w, r', e2, k2, k3⟩, h1 =>
        subst e2 e1
        rw [show r' = [] from k3]
        exact ⟨v, w, rfl, h1 _ H1 mu1 (Le.refl _ _) (((s.mono l1).set i k1).set j k2) st1⟩
    · exact h1.elim
theorem psv_par3 {i j l : Nat} {x y z : Str} {a b c : Expr} {fs : EvA} {px py pz pt pos : Pos} {kt k2 pt2} (hc : X.calm = true) (hN : X.N.Nodup) (hi : X.N[i]? = some x) (hj : X.N[j]? = some y) (hl : X.N[l]? = some z) (hij : i ≠ j) (hil : i ≠ l) (hjl : j ≠ l)
    (hx : X.env.scope.names.lookup x = some .local) (hy : X.env.scope.names.lookup y = some .local) (hz : X.env.scope.names.lookup z = some .local) (ha : PAv X [a, b, c] fs)
    (hw : swappedStores [.Tuple [.Name x px, .Name y py, .Name z pz] kt pt] (.Tuple [a, b, c] k2 pt2) X.env = pure (some [x, y, z]))
    (hs : swapsWithSole [.Tuple [.Name x px, .Name y py, .Name z pz] kt pt] (.Tuple [a, b, c] k2 pt2) pos.line X.env = pure false) :
    PSv X (.Assign [.Tuple [.Name x px, .Name y py, .Name z pz] kt pt] (.Tuple [a, b, c] k2 pt2) pos) (sPar [i, j, l] fs) := fun W tk =>
  PS.imp (ps_par3 hc hN hi hj hl hij hil hjl hx hy hz (ha W tk) hw hs) fun D τ H ⟨σ, M, mu, s, st, h⟩ => by
    refine ⟨σ, M, mu, s, st, (PostA.bindS s h).mono fun vs H1 ⟨mu1, ds, M1, l1, st1, r1, h1⟩ => ?_⟩
    split at h1
    · rename_i hl
      match ds, hl, r1, h1 with
      | [d, e, f], _, ⟨v, r, e1, k1, w, r', e2, k2, u, r'', e3, k3, k4⟩, h1 =>
        subst e3 e2 e1
        rw [show r'' = [] from k4]
        exact ⟨v, w, u, rfl, h1 _ H1 mu1 (Le.refl _ _) ((((s.mono l1).set i k1).set j k2).set l k3) st1⟩
    · exact h1.elim
end
/-! ### list(range(n)) -/
def lrOk (n : Int) : Bool := decide (0 ≤ n) && decide (n ≤ 1000000)
def eLRg (fa : EvD) : EvD := fun σ M => (fa σ M).bind fun d M1 => match d with
  | .p (.int n) => if lrOk n = true then .ok (.nw (rgs 0 n.toNat)) M1 else .no
  | _ => .no
theorem rgs_rgV {g : Mg} {H : Hp} {e : List Addr} {n : Int} : RepL g H e (rgs 0 n.toNat) (rgV 0 n) := by
  unfold rgs rgV
  have := RepL.of_ints (g := g) (H := H) (e := e) ((List.range n.toNat).map fun i : Nat => (0 : Int) + (i : Int))
  rw [List.map_map, List.map_map] at this
  rw [Int.sub_zero]
  exact this
theorem pv_lrg {X : Cx} {a : Expr} {fa : EvD} {p p2 pos pos2 : Pos} (hc : X.calm = true) (hl : Gl X "list") (hr : Gl X "range") (hml : X.mg "list" = none) (hmr : X.mg "range" = none) (ha : PEv X a fa) (na : starEach [a] X.env = (false, eval a X.env) :: starEach [] X.env) :
    PEv X (.Call (.Name "list" p) [.Call (.Name "range" p2) [a] [] pos2] [] pos) (eLRg fa) := fun W tk => PE.imp (pe_listRg hc hl hml (prg_1 hr hmr (ha W tk) na)) fun τ H Q ⟨σ, M, mu, s, st, h⟩ => by
  refine ⟨σ, M, mu, s, st, (PostO.bind h).mono fun v H1 ⟨mu1, d, M1, l1, st1, r1, h1⟩ => ?_⟩
  try dsimp only at h1
  split at h1
  · split at h1
    · rename_i n hn
      refine ⟨n, rep_int_inv r1, ?_, fun q hq => h1 _ _ mu1 (Le.upd hq) (post_nw st1 hq rgs_rgV)⟩
      unfold lrOk at hn
      rw [Bool.and_eq_true, decide_eq_true_eq, decide_eq_true_eq] at hn
      exact RgOk.of_le (by omega) (by omega) (by omega) hn.1
    · exact h1.elim
  · exact h1.elim
end Ev

set_option Elab.async false
set_option linter.all false
set_option maxRecDepth 100000
set_option maxHeartbeats 4000000
/-! Core101: what a word, a try, a call of what a name holds give. -/
namespace Ev
open PySem PySem.Spec PyProof.Rows L2 LamX
/-- what leaves the lambda's body -/
abbrev lamXe (X : Cx) (A : Around) (outer : List Env) (s : Shared) (H : Hp) (E : XK) (scope : Scope) (f c' : Addr) : Value → Shared → Prop :=
  fun e s' => wpAny (model X.prog X.w) (A.deeper (lamEnv X scope s.heap.objs.size f c')) (leaving (lamEnv X scope s.heap.objs.size f c') e) (fun _ s'' => L2N.CX X.prog X.w outer H s E e s'') (fun e' s'' => L2N.CX X.prog X.w outer H s E e' s'') s'
abbrev lamN (X : Cx) (A : Around) (outer : List Env) (s : Shared) (H : Hp) (E : XK) (scope : Scope) (f c' : Addr) : Cx := (lamCx X A outer s H E scope f c').tr [] (lamXe X A outer s H E scope f c')
theorem lam_takes {X : Cx} {A : Around} {outer : List Env} {s : Shared} {H : Hp} {E : XK} {scope : Scope} {f c' : Addr} : L2N.Takes (lamN X A outer s H E scope f c') (fun cls d _ H => E cls d H) :=
  L2N.takes_of rfl rfl rfl rfl
def eWord (wd : Str → Option Str) (f : EvD) : EvD := fun σ M => match f σ M with
  | .ok _ M1 => .ok (.p (.str "")) M1
  | .er c none M1 => (match wd c with
    | some z => .ok (.p (.str z)) M1
    | none => .no)
  | _ => .no
def sTryW (wd : Str → Option Str) (fb : EvS) : EvS := fun σ M => match fb σ M with
  | .er c none _ M1 => (match wd c with
    | some z => .ok (.rt (.p (.str z))) M1
    | none => .no)
  | .er _ _ _ _ => .no
  | o => o
def isNoArgs : Arguments → Bool
  | ⟨[], [], none, [], [], none, []⟩ => true
  | _ => false
theorem noArgs_eq {a : Arguments} (h : isNoArgs a = true) : a = ⟨[], [], none, [], [], none, []⟩ := by
  unfold isNoArgs at h
  split at h
  · rfl
  · cases h
/-- f(..), f a name that holds a def -/
def eCallV (l : List (Str × Nat × Fn)) (i : Nat) (fs : EvA) : EvD := fun σ M => match σ[i]? with
  | some (some (.p (.fn y))) => (match l.find? fun q => decide (q.1 = y) with
    | some q => (fs σ M).bind fun ds M1 => if ds.length = q.2.1 then q.2.2 ds M1 else .no
    | none => .no)
  | _ => .no
section
variable {X : Cx} {l : List (Str × Nat × Fn)} {x : Str} {e : Expr} {es : List Expr} {fs : EvA} {i k : Nat} {p pos : Pos}
theorem pv_callV (hF : ∀ y n F, (y, n, F) ∈ l → FnG X.prog X.w X.K X.mg X.base k y n F) (hr : Room k X.A) (hN : X.N[i]? = some x) (hv : Vis X.env.scope x) (ha : PAv X (e :: es) fs) (hdb : (x == ("__debug__" : Str)) = false) (hcd : (x == ("__classdict__" : Str)) = false)
    (he : starEach (e :: es) X.env = (false, eval e X.env) :: starEach es X.env) (hpl : (backTo pos (starEach es X.env)).any (·.1) = false) : PEv X (.Call (.Name x p) (e :: es) [] pos) (eCallV l i fs) := fun W tk => by
  refine ⟨fun pins s τ H Q I h => ?_⟩
  obtain ⟨σ, M, mu, sl, st, h⟩ := h
  unfold eCallV at h
  split at h
  · rename_i y hs
    split at h
    · rename_i q hq
      have hm := List.mem_of_find?_eq_some hq
      have ey : q.1 = y := by
        have := List.find?_some hq
        simpa using this
      obtain ⟨y', n, F⟩ := q
      dsimp only at ey
      subst ey
      obtain ⟨f, fd, ps, h1, h2, h3, h4⟩ := hF _ _ _ hm
      obtain ⟨v, hv1, r⟩ := sl.at_ i _ hs
      have r : Rep _ _ _ _ _ := r
      unfold Rep at r
      obtain ⟨a, rfl, ga⟩ := r
      have ga : X.mg y' = some (.ref a) := ga
      rw [h2] at ga
      cases ga
      refine wpAny_Call_Name_kw (thn ((pe_var (pos := p) hN hv hdb hcd).run pins s τ H (fun v H1 => v = .ref f ∧ H1 = H) I ⟨.ref f, hv1, rfl, rfl⟩) fun u s1 ⟨v, H1, I1, r1, q1⟩ => ?_)
      obtain ⟨rfl, rfl⟩ := q1
      cases r1
      have hc : tCallS (spOf X.g n F) (WE W) (tAr X.g W fs) τ H1 Q := call_of ⟨σ, M, mu, sl, st, h⟩
      refine PySem.W.callWith_K (h₀ := X.base) I.ok.mod.kin h3 (thn ((ha W tk).run pos pins s1 τ _ _ I1 hc) fun us s2 ⟨vs, H2, I2, r, q⟩ => ⟨I2.kIn, ?_⟩) he hpl
      exact run_fnS h1 hr h4 (L2N.passAt tk τ) I2 r q
    · exact h.elim
  · exact h.elim
end
end Ev

set_option Elab.async false
set_option linter.all false
set_option maxRecDepth 100000
set_option maxHeartbeats 4000000
/-! Core11: from the text to the combinators. -/
namespace Ev
open PySem PySem.Spec PyProof.Rows L2 LamX

def okName (x : Str) : Bool := !(x == ("__debug__" : Str)) && !(x == ("__classdict__" : Str)) && !(x == ("__name__" : Str))
structure Gm where
  N : List Str
  sc : Scope
  fns : List (Str × Nat × Fn)
  cst : List (Str × P)
  mu : List Str
  exc : List Str
  stc : Str → Bool
  wd : Option (Str → Option Str)
  wt : Option (Str → Option Str)
/-- the code object of the def, its table -/
def CodeOk (X : Cx) : Prop := ∃ c P, X.env.code = .ref c ∧ TabB X.base X.mg c P ∧ (P, X.env.qual ++ "<lambda>") ∈ TK X.K ∧ ∀ p ∈ TK X.K, p.1 = P → p.2 = X.env.qual ++ "<lambda>"
/-- _law_word(lambda: e) gives the words of e's error -/
def WordAll (P : Program) (w : World) (K : PySem.W.Frag) (mg : Str → Option Value) (base : Heap) (wd : Str → Option Str) : Prop :=
  ∀ (X : Cx) (j : Nat), X.prog = P → X.w = w → X.K = K → X.mg = mg → X.base = base → Room (j + 2) X.A → 1 ≤ j → CodeOk X → ∀ (params : Arguments) (body : Expr) (scope : Scope) (f : EvD) (p lpos pos : Pos), Gl X "_law_word" → isNoArgs params = true → LamS X.env.scope scope →
    (∀ (A : Around) (outer : List Env) (s : Shared) (H : Hp) (E : XK) (a c' : Addr), Room j (A.deeper (lamEnv X scope s.heap.objs.size a c')) → PEv (lamN X A outer s H E scope a c') body f) → PEv X (.Call (.Name "_law_word" p) [.Lambda params body scope lpos] [] pos) (eWord wd f)
/-- try: .. except RibbonError as e: return _law_names(e) -/
def TryAll (X : Cx) (wd : Str → Option Str) : Prop :=
  ∀ (body : List Stmt) (fb : EvS) (n : Str) (i : Nat) (np q1 q2 q3 q4 pos pos' : Pos), X.N[i]? = some n → X.env.scope.names.lookup n = some .local → okName n = true → Gl X "_law_names" → Gl X "RibbonError" →
    (∀ (pn : List (Addr × Obj)) (xe : Value → Shared → Prop), PassesOwn (model X.prog X.w) X.A X.env xe → PSsv (X.tr pn xe) body fb) →
    PSv X (.Try body [.ExceptHandler (some (.Name "RibbonError" np)) (some n) [.Return (some (.Call (.Name "_law_names" q1) [.Name n q2] [] q3)) q4] pos'] [] [] pos) (sTryW wd fb)
def bltN : List Str := ["isinstance", "len", "abs", "max", "min", "sum", "all", "sorted", "int", "str", "tuple", "list", "bool", "range", "zip", "enumerate"]
structure CtxOk (X : Cx) (k : Nat) (Γ : Gm) : Prop where
  N : X.N = Γ.N
  nd : Γ.N.Nodup
  sc : X.env.scope = Γ.sc
  kind : Γ.sc.kind = .function
  calm : X.calm = true
  room : Room k X.A
  fns : ∀ x n F, (x, n, F) ∈ Γ.fns → FnG X.prog X.w X.K X.mg X.base k x n F
  cst : ∀ x p, (x, p) ∈ Γ.cst → ∃ u v, X.mg x = some u ∧ RelV v u ∧ ∀ H mu, Rep X.g H mu p v
  fn : ∀ x, Γ.stc x = true → X.fn x = true
  blt : ∀ x ∈ bltN, X.mg x = none
  exc : ∀ x ∈ Γ.exc, ExcG X.K X.mg x
  lam : ∀ wd, Γ.wd = some wd → CodeOk X ∧ WordAll X.prog X.w X.K X.mg X.base wd ∧ ∃ j, j + 2 ≤ k ∧ 1 ≤ j ∧ ∀ x n F, (x, n, F) ∈ Γ.fns → FnG X.prog X.w X.K X.mg X.base j x n F
  tryw : ∀ wd, Γ.wt = some wd → TryAll X wd
structure CtxS (X : Cx) : Prop where
  own : PassesOwn (model X.prog X.w) X.A X.env X.xe
def idx (x : Str) : List Str → Option Nat
  | [] => none
  | y :: r => if x = y then some 0 else match idx x r with
    | some i => some (i + 1)
    | none => none
theorem idx_ok {x : Str} : ∀ {N : List Str} {i : Nat}, idx x N = some i → N[i]? = some x
  | [], _, h => by cases h
  | y :: r, i, h => by
    unfold idx at h
    split at h
    · rename_i e; cases h; rw [e]; rfl
    · split at h
      · rename_i j e; cases h; simpa using idx_ok e
      · cases h
def assoc {α : Type} (x : Str) : List (Str × α) → Option α
  | [] => none
  | (y, a) :: r => if x = y then some a else assoc x r
theorem assoc_ok {α : Type} {x : Str} {a : α} : ∀ {l : List (Str × α)}, assoc x l = some a → (x, a) ∈ l
  | [], h => by cases h
  | (y, b) :: r, h => by
    unfold assoc at h
    split at h
    · rename_i e; cases h; rw [e]; exact List.mem_cons_self
    · exact List.mem_cons_of_mem _ (assoc_ok h)
theorem okName_1 {x : Str} (h : okName x = true) : (x == ("__debug__" : Str)) = false := by
  unfold okName at h; simp only [Bool.and_eq_true, Bool.not_eq_true'] at h; exact h.1.1
theorem okName_2 {x : Str} (h : okName x = true) : (x == ("__classdict__" : Str)) = false := by
  unfold okName at h; simp only [Bool.and_eq_true, Bool.not_eq_true'] at h; exact h.1.2
theorem okName_3 {x : Str} (h : okName x = true) : x ≠ "__name__" := fun e => by
  subst e; revert h; decide
def isVis (sc : Scope) (x : Str) : Bool := match sc.names.lookup x with
  | some .local => true
  | some .cell => true
  | some .free => true
  | _ => false
def isLoc (Γ : Gm) (x : Str) : Bool := match Γ.sc.names.lookup x with
  | some .local => true
  | some .cell => Γ.stc x
  | _ => false
def isLcl (sc : Scope) (x : Str) : Bool := match sc.names.lookup x with
  | some .local => true
  | _ => false
def isGl (sc : Scope) (x : Str) : Bool := match sc.names.lookup x with
  | some .globalImplicit => true
  | _ => false
section
variable {X : Cx} {k : Nat} {Γ : Gm} {x : Str}
theorem vis_ok (C : CtxOk X k Γ) (h : isVis Γ.sc x = true) : Vis X.env.scope x := by
  unfold isVis at h
  rw [C.sc]
  split at h
  · exact .inl (by assumption)
  · exact .inr (.inl (by assumption))
  · exact .inr (.inr (by assumption))
  · cases h
theorem loc_ok (C : CtxOk X k Γ) (h : isLoc Γ x = true) : Loc X.env.scope x ∧ (X.fn x = true ∨ X.env.scope.names.lookup x = some .local) := by
  unfold isLoc at h
  have hf := C.fn x
  rw [C.sc]
  split at h
  · exact ⟨.inl (by assumption), .inr (by assumption)⟩
  · rename_i e
    exact ⟨.inr e, .inl (hf h)⟩
  · cases h
theorem lcl_ok (C : CtxOk X k Γ) (h : isLcl Γ.sc x = true) : X.env.scope.names.lookup x = some .local := by
  unfold isLcl at h
  rw [C.sc]
  split at h
  · assumption
  · cases h
theorem gl_ok (C : CtxOk X k Γ) (h : isGl Γ.sc x = true) : Gl X x := by
  unfold isGl at h
  split at h
  · rename_i e
    show X.env.scope.names.lookup x = some .globalImplicit
    rw [C.sc]; exact e
  · cases h
end

structure Cmp where
  e : Gm → Expr → Option EvD
  a : Gm → List Expr → Option EvA
  t : Gm → Expr → Option EvB
  i : Gm → Expr → Expr → Option EvI
  g : Gm → Expr → Option Tg
  gs : Gm → List Expr → Option (List Tg)
  s : Gm → Stmt → Option EvS
  ss : Gm → List Stmt → Option EvS
structure Snd (c : Cmp) : Prop where
  e : ∀ {X k Γ}, CtxOk X k Γ → ∀ {x f}, c.e Γ x = some f → PEv X x f
  a : ∀ {X k Γ}, CtxOk X k Γ → ∀ {x f}, c.a Γ x = some f → PAv X x f
  t : ∀ {X k Γ}, CtxOk X k Γ → ∀ {x f}, c.t Γ x = some f → PTv X x f
  i : ∀ {X k Γ}, CtxOk X k Γ → ∀ {tg x f}, c.i Γ tg x = some f → PIv X tg x f
  g : ∀ {X k Γ}, CtxOk X k Γ → ∀ {x f}, c.g Γ x = some f → PGv X x f
  gs : ∀ {X k Γ}, CtxOk X k Γ → ∀ {x f}, c.gs Γ x = some f → PGsv X x f
  gl : ∀ {Γ x ts}, c.gs Γ x = some ts → ts.length = x.length
  s : ∀ {X k Γ}, CtxOk X k Γ → CtxS X → ∀ {x f}, c.s Γ x = some f → PSv X x f
  ss : ∀ {X k Γ}, CtxOk X k Γ → CtxS X → ∀ {x f}, c.ss Γ x = some f → PSsv X x f

/-! ### operators -/
def opB : Operator → Option (P → P → Option D)
  | .Add => some oAdd | .Sub => some oSub | .Mult => some oMul | .FloorDiv => some oFdiv | .Mod => some oMod | .Pow => some oPow
  | _ => none
def opC : CmpOp → P → P → Option D
  | .Eq => oEq | .NotEq => oNe | .Lt => oLt | .LtE => oLe | .Gt => oGt | .GtE => oGe | .Is => oIsN | .IsNot => oNotN | .In => oIn | .NotIn => oNotIn
def opI : Operator → Option (P → P → Option D)
  | .Add => some oIadd | .Sub => some oSub | .Mod => some oMod
  | _ => none
section
variable {X : Cx} {k : Nat} {Γ : Gm}
theorem opB_ok {op : Operator} {o} (h : opB op = some o) : Op2 X (binaryOp op) o := by
  cases op <;> cases h
  · exact o_add
  · exact o_sub
  · exact o_mul
  · exact o_mod
  · exact o_pow
  · exact o_fdiv
theorem opC_ok (C : CtxOk X k Γ) (op : CmpOp) : Op2 X (compareOp op) (opC op) := by
  have hu := C.room.units
  cases op
  · exact o_eq hu
  · exact o_ne hu
  · exact o_lt
  · exact o_le
  · exact o_gt
  · exact o_ge
  · exact o_isN
  · exact o_notN
  · exact o_in
  · exact o_notIn
theorem opI_ok {op : Operator} {o} (h : opI op = some o) : Op2 X (inplaceOp op) o := by
  cases op <;> cases h
  · exact o_iadd
  · exact o_isub
  · exact o_imod
end

/-! ### argument lists -/
def noStar : Expr → Bool
  | .Starred .. => false
  | _ => true
theorem star_of {e : Expr} {es : List Expr} {env : Env} (h : noStar e = true) : starEach (e :: es) env = (false, eval e env) :: starEach es env := by
  cases e <;> first | rfl | cases h
theorem star_none {es : List Expr} {env : Env} (h : es.all noStar = true) : (starEach es env).any (·.1) = false := by
  induction es with
  | nil => rfl
  | cons e r ih =>
    rw [List.all_cons, Bool.and_eq_true] at h
    rw [star_of h.1, List.any_cons, ih h.2]; rfl
theorem back_none {es : List Expr} {env : Env} {pos : Pos} (h : es.all noStar = true) : (backTo pos (starEach es env)).any (·.1) = false := by
  induction es with
  | nil => rfl
  | cons e r ih =>
    rw [List.all_cons, Bool.and_eq_true] at h
    rw [star_of h.1]
    show (false || (backTo pos (starEach r env)).any (·.1)) = false
    rw [ih h.2]; rfl
theorem back_all {es : List Expr} {env : Env} {pos : Pos} (h : es.all noStar = true) : (backTo pos (starEach es env)).all (fun x => !x.1) = true := by
  induction es with
  | nil => rfl
  | cons e r ih =>
    rw [List.all_cons, Bool.and_eq_true] at h
    rw [star_of h.1]
    show (true && (backTo pos (starEach r env)).all (fun x => !x.1)) = true
    rw [ih h.2]; rfl
theorem few_of {es : List Expr} {env : Env} {pos : Pos} (h : es.all noStar = true) (hl : decide (es.length < 30) = true) : ((backTo pos (starEach es env)).all (fun x => !x.1) && (backToKw pos (keywordEach [] env)).all (fun x => x.1.isSome)
      && decide (es.length + ([] : List Keyword).length + (if ([] : List Keyword).isEmpty then 0 else 1) < 30)) = true := by
  rw [back_all h]
  have e : es.length + ([] : List Keyword).length + (if ([] : List Keyword).isEmpty then 0 else 1) = es.length := by simp
  rw [e, hl]; rfl
def cA (c : Cmp) (Γ : Gm) : List Expr → Option EvA
  | [] => some aNil
  | e :: es => match c.e Γ e, c.a Γ es, noStar e with
    | some f, some r, true => some (aCons f r)
    | _, _, _ => none
theorem cA_ok {c : Cmp} (S : Snd c) {X k Γ} (C : CtxOk X k Γ) : ∀ {es : List Expr} {f : EvA}, cA c Γ es = some f → PAv X es f
  | [], f, h => by cases h; exact pav_nil
  | e :: es, f, h => by
    have h : (match c.e Γ e, c.a Γ es, noStar e with
      | some f, some r, true => some (aCons f r)
      | _, _, _ => none) = some f := h
    split at h
    · rename_i h1 h2 h3
      cases h
      exact pav_cons (S.e C h1) (S.a C h2) (star_of h3)
    · cases h

/-! ### calls -/
def bltO (x : Str) : Option (List P → Option D) := if x = "len" then some cLen else if x = "abs" then some cAbs else if x = "max" then some cMax else if x = "min" then some cMin else if x = "sum" then some cSum else if x = "all" then some cAll
    else if x = "sorted" then some cSorted else if x = "int" then some cInt else if x = "str" then some cStr else if x = "tuple" then some cTuple else if x = "list" then some cList else none
section
variable {X : Cx} {k : Nat} {Γ : Gm} {e : Expr} {es : List Expr} {fs : EvA} {p pos : Pos}
theorem bltO_ok (C : CtxOk X k Γ) {x : Str} {o} (h : bltO x = some o) (hg : isGl Γ.sc x = true) (ha : PAv X (e :: es) fs) (hs : (e :: es).all noStar = true) : PEv X (.Call (.Name x p) (e :: es) [] pos) (eCB o fs) := by
  rw [List.all_cons, Bool.and_eq_true] at hs
  have h1 := star_of (es := es) (env := X.env) hs.1
  have h2 := back_none (env := X.env) (pos := pos) hs.2
  have hG := gl_ok C hg
  unfold bltO at h
  split at h
  · rename_i ex; subst ex; cases h
    exact pv_callB c_len hG (C.blt _ (by decide)) (by decide +kernel) ha (by decide) (by decide) h1 h2
  split at h
  · rename_i ex; subst ex; cases h
    exact pv_callB c_abs hG (C.blt _ (by decide)) (by decide +kernel) ha (by decide) (by decide) h1 h2
  split at h
  · rename_i ex; subst ex; cases h
    exact pv_callB (c_max C.calm) hG (C.blt _ (by decide)) (by decide +kernel) ha (by decide) (by decide) h1 h2
  split at h
  · rename_i ex; subst ex; cases h
    exact pv_callB (c_min C.calm) hG (C.blt _ (by decide)) (by decide +kernel) ha (by decide) (by decide) h1 h2
  split at h
  · rename_i ex; subst ex; cases h
    exact pv_callB (c_sum C.calm) hG (C.blt _ (by decide)) (by decide +kernel) ha (by decide) (by decide) h1 h2
  split at h
  · rename_i ex; subst ex; cases h
    exact pv_callB (c_all C.calm) hG (C.blt _ (by decide)) (by decide +kernel) ha (by decide) (by decide) h1 h2
  split at h
  · rename_i ex; subst ex; cases h
    exact pv_callB c_sorted hG (C.blt _ (by decide)) (by decide +kernel) ha (by decide) (by decide) h1 h2
  split at h
  · rename_i ex; subst ex; cases h
    exact pv_callTy c_int hG (C.blt _ (by decide)) (by decide +kernel) ha (by decide) (by decide) h1 h2
  split at h
  · rename_i ex; subst ex; cases h
    exact pv_callTy c_str hG (C.blt _ (by decide)) (by decide +kernel) ha (by decide) (by decide) h1 h2
  split at h
  · rename_i ex; subst ex; cases h
    exact pv_callTy c_tuple hG (C.blt _ (by decide)) (by decide +kernel) ha (by decide) (by decide) h1 h2
  split at h
  · rename_i ex; subst ex; cases h
    exact pv_callTy c_list hG (C.blt _ (by decide)) (by decide +kernel) ha (by decide) (by decide) h1 h2
  cases h
end
/-- methods of built-ins: the receiver's expression, arguments -/
def isCall : Expr → Bool
  | .Call .. => true
  | _ => false
theorem base_of {o : Expr} {name : Str} {env : Env} {wh : Sem Value} (h : isCall o = false) : attributeBase o name env wh = wh := by
  cases o <;> first | rfl | cases h
def isStrC : Expr → Bool
  | .Constant (.str _) _ _ => true
  | _ => false
def mtO (sc : Bool) (name : Str) (fa : EvD) (fs : EvA) : Option EvD :=
  if name = "join" then some (eMt "str" mJoin fa fs) else if name = "split" then some (eMt "str" mSplit fa fs) else if name = "count" then some (eMt "list" mCount fa fs)
  else if name = "append" then some (eLm appK fa fs) else if name = "extend" then some (eLm extK fa fs) else if name = "index" then some (if sc = true then eMt "str" mIndexS fa fs else eMt "list" mIndexL fa fs) else none
section
variable {X : Cx} {k : Nat} {Γ : Gm} {o e : Expr} {es : List Expr} {fa f : EvD} {fs : EvA} {apos pos : Pos}
theorem mtO_ok (C : CtxOk X k Γ) {name : Str} {sc : Bool} (h : mtO sc name fa fs = some f) (ho : PEv X o fa) (ha : PAv X (e :: es) fs) (hs : (e :: es).all noStar = true) (hl : decide ((e :: es).length < 30) = true) (hc : isCall o = false) (hline : (apos.endLine == pos.line) = true) :
    PEv X (.Call (.Attribute o name apos) (e :: es) [] pos) f := by
  have hf := few_of (env := X.env) (pos := pos) hs hl
  rw [List.all_cons, Bool.and_eq_true] at hs
  have h1 := star_of (es := es) (env := X.env) hs.1
  have h2 := back_none (env := X.env) (pos := pos) hs.2
  unfold mtO at h
  split at h
  · rename_i ex; subst ex; cases h
    exact pv_mt F.plainAttrs_str F.slot_str_join rfl m_join ho ha (base_of hc) hf hline h1 h2
  split at h
  · rename_i ex; subst ex; cases h
    exact pv_mt F.plainAttrs_str F.slot_str_split rfl m_split ho ha (base_of hc) hf hline h1 h2
  split at h
  · rename_i ex; subst ex; cases h
    exact pv_mt F.plainAttrs_list F.slot_list_count rfl m_count ho ha (base_of hc) hf hline h1 h2
  split at h
  · rename_i ex; subst ex; cases h
    exact pv_lm F.plainAttrs_list F.slot_list_append rfl mt_append lm_app ho ha (base_of hc) hf hline h1 h2
  split at h
  · rename_i ex; subst ex; cases h
    exact pv_lm F.plainAttrs_list F.slot_list_extend rfl mt_extend lm_ext ho ha (base_of hc) hf hline h1 h2
  split at h
  · rename_i ex; subst ex; cases h
    cases sc
    · exact pv_mt F.plainAttrs_list F.slot_list_index rfl m_indexL ho ha (base_of hc) hf hline h1 h2
    · exact pv_mt F.plainAttrs_str F.slot_str_index rfl (m_indexS C.calm) ho ha (base_of hc) hf hline h1 h2
  cases h
end
end Ev

set_option Elab.async false
set_option linter.all false
set_option maxRecDepth 100000
set_option maxHeartbeats 4000000
/-! Core12: from the text to the combinators: expressions. -/
namespace Ev
open PySem PySem.Spec PyProof.Rows L2 LamX

def zpos : Pos := ⟨0, 0, 0, 0⟩
def cName (Γ : Gm) (x : Str) : Option EvD :=
  if okName x = true then (if isVis Γ.sc x = true then (match idx x Γ.N with
    | some i => some (eVar i)
    | none => none)
  else if isGl Γ.sc x = true then (match assoc x Γ.cst with
    | some p => some (eC p)
    | none => (match assoc x Γ.fns with
      | some _ => some (eC (.fn x))
      | none => none))
  else none) else none
def cConst : Const → Option EvD
  | .int i => some (eC (.int i))
  | .bool b => some (eC (.bl b))
  | .none => some (eC .non)
  | .str s => some (eC (.str s))
  | _ => none
def cBin (c : Cmp) (Γ : Gm) (a : Expr) (op : Operator) (b : Expr) : Option EvD := match opB op, c.e Γ a, c.e Γ b with
  | some o, some fa, some fb => some (eBin o fa fb)
  | _, _, _ => none
def cCmp (c : Cmp) (Γ : Gm) (a : Expr) : List CmpOp → List Expr → Option EvD
  | [op], [b] => (match c.e Γ a, c.e Γ b, behindInMarks op b with
    | some fa, some fb, false => some (eBin (opC op) fa fb)
    | _, _, _ => none)
  | [op, op'], [b, d] => (match c.e Γ a, c.e Γ b, c.e Γ d, lastMarks [op, op'] [b, d] with
    | some fa, some fb, some fc, false => some (eChain (opC op) (opC op') fa fb fc)
    | _, _, _, _ => none)
  | _, _ => none
def cBool (c : Cmp) (Γ : Gm) (op : BoolOp) (pos : Pos) : List Expr → Option EvD
  | [a] => c.e Γ a
  | a :: b :: r => (match op, c.e Γ a, c.e Γ (.BoolOp op (b :: r) pos) with
    | .And, some f, some k => some (eAnd f k)
    | .Or, some f, some k => some (eOr f k)
    | _, _, _ => none)
  | [] => none
def boolT : BoolOp → Option EvB → Option EvB → Option EvB
  | .And, some f, some k => some (bAnd f k)
  | .Or, some f, some k => some (bOr f k)
  | _, _, _ => none
def cBoolT (c : Cmp) (Γ : Gm) (op : BoolOp) : List Expr → Option EvB
  | [] => none
  | [a] => c.t Γ a
  | a :: b :: r => boolT op (c.t Γ a) (cBoolT c Γ op (b :: r))
/-- a slice's end -/
def cO (c : Cmp) (Γ : Gm) : Option Expr → Option EvO
  | none => some sNone
  | some e => (match c.e Γ e with
    | some f => some (sSome f)
    | none => none)
def plainIx : Expr → Bool
  | .Slice .. => false
  | _ => true
def cSub (c : Cmp) (Γ : Gm) (a : Expr) : Expr → Option EvD
  | .Slice lo hi none _ => (match c.e Γ a, cO c Γ lo, cO c Γ hi with
    | some fa, some fl, some fh => some (eSl fa fl fh)
    | _, _, _ => none)
  | .Slice none none (some (.UnaryOp .USub (.Constant (.int n) _ _) _)) _ => if n = 1 then (match c.e Γ a with
    | some fa => some (eRevT fa)
    | none => none) else none
  | b => (match c.e Γ a, c.e Γ b, plainIx b with
    | some fa, some fb, true => some (eBin oIx fa fb)
    | _, _, _ => none)
def tyS (x : Str) : Option String := if x = "int" then some "int" else if x = "str" then some "str" else if x = "tuple" then some "tuple" else if x = "bool" then some "bool" else if x = "list" then some "list" else none
def cIsi (c : Cmp) (Γ : Gm) : List Expr → Option EvD
  | [e, .Name y _] => (match c.e Γ e, tyS y, noStar e, isGl Γ.sc y with
    | some f, some T, true, true => some (eIsi T f)
    | _, _, _, _ => none)
  | _ => none
def cCallN (c : Cmp) (Γ : Gm) (x : Str) : List Expr → Option EvD
  | [] => if okName x = true ∧ isGl Γ.sc x = true then (match assoc x Γ.fns with
    | some (0, F) => some (eCall 0 F aNil)
    | _ => none) else none
  | e :: es => if okName x = true ∧ isGl Γ.sc x = true ∧ (e :: es).all noStar = true then (match assoc x Γ.fns with
    | some (n, F) => (match c.a Γ (e :: es) with
      | some fs => some (eCall n F fs)
      | none => none)
    | none => if x = "isinstance" then cIsi c Γ (e :: es) else (match bltO x, c.a Γ (e :: es) with
      | some o, some fs => some (eCB o fs)
      | _, _ => none)) else none
/-- f(..), f a name that holds a def -/
def cCallV (c : Cmp) (Γ : Gm) (x : Str) : List Expr → Option EvD
  | [] => none
  | e :: es => if okName x = true ∧ isVis Γ.sc x = true ∧ (e :: es).all noStar = true then (match idx x Γ.N, c.a Γ (e :: es) with
    | some i, some fs => some (eCallV Γ.fns i fs)
    | _, _ => none) else none
/-- list(range(e)) -/
def cLRg (c : Cmp) (Γ : Gm) (x : Str) : List Expr → Option EvD
  | [.Call (.Name y _) [e] [] _] => if x = "list" ∧ y = "range" ∧ isGl Γ.sc x = true ∧ isGl Γ.sc y = true ∧ noStar e = true then (match c.e Γ e with
    | some f => some (eLRg f)
    | none => none) else none
  | _ => none
/-- _law_word(lambda: e) -/
def cWord (c : Cmp) (Γ : Gm) (x : Str) (params : Arguments) (body : Expr) (scope : Scope) : Option EvD := match Γ.wd with
  | some wd => if x = "_law_word" ∧ isGl Γ.sc x = true ∧ isNoArgs params = true ∧ lamSB Γ.sc scope = true then (match c.e { Γ with sc := scope, stc := fun _ => false, wd := none, wt := none } body with
    | some f => some (eWord wd f)
    | none => none) else none
  | none => none
def cCallM (c : Cmp) (Γ : Gm) (o : Expr) (name : Str) (l1 l2 : Nat) : List Expr → Option EvD
  | [] => none
  | e :: es => if (e :: es).all noStar = true ∧ decide ((e :: es).length < 30) = true ∧ isCall o = false ∧ (l1 == l2) = true then (match c.e Γ o, c.a Γ (e :: es) with
    | some fo, some fs => mtO (isStrC o) name fo fs
    | _, _ => none) else none
def relG (Γ : Gm) (scope : Scope) : Gm := { Γ with sc := relS scope Γ.sc, stc := fun x => scope.names.lookup x == some .cell, wt := none }
def ownOf (N : List Str) : List (Str × NameKind) → List (Str × Nat)
  | [] => []
  | (y, k) :: r => match k, idx y N with
    | .local, some i => (y, i) :: ownOf N r
    | .cell, some i => (y, i) :: ownOf N r
    | _, _ => ownOf N r
def cIfs (c : Cmp) (Γ : Gm) : List Expr → Option EvB
  | [] => some bYes
  | [e] => c.t Γ e
  | _ => none
def isSet : Expr → Bool
  | .Set .. => true
  | _ => false
def cLc (c : Cmp) (Γ : Gm) (elt : Expr) (scope : Scope) : List Comprehension → Option EvD
  | [⟨tg, iter, ifs, 0⟩] => if blkC Γ.N Γ.sc scope (ownOf Γ.N scope.names) = true ∧ isSet iter = false then (match c.i Γ tg iter, c.g (relG Γ scope) tg, cIfs c (relG Γ scope) ifs, c.e (relG Γ scope) elt with
    | some fi, some t, some fif, some fe => some (eLc t ((ownOf Γ.N scope.names).map (·.2)) fi fif fe)
    | _, _, _, _ => none) else none
  | _ => none
def stE (c : Cmp) (Γ : Gm) : Expr → Option EvD
  | .Constant v _ _ => cConst v
  | .Name x _ => cName Γ x
  | .BinOp a op b _ => cBin c Γ a op b
  | .Compare a ops bs _ => cCmp c Γ a ops bs
  | .BoolOp op es pos => cBool c Γ op pos es
  | .UnaryOp .Not a _ => (match c.e Γ a with
    | some f => some (eNot f)
    | none => none)
  | .UnaryOp .USub a _ => (match c.e Γ a with
    | some f => some (eNeg f)
    | none => none)
  | .IfExp t a b _ => (match c.t Γ t, c.e Γ a, c.e Γ b with
    | some ft, some fa, some fb => some (eIf ft fa fb)
    | _, _, _ => none)
  | .Tuple es _ _ => (match c.a Γ es with
    | some fs => some (eTup fs)
    | none => none)
  | .List es _ => (match c.a Γ es with
    | some fs => some (eLst fs)
    | none => none)
  | .Subscript a b _ => cSub c Γ a b
  | .Call (.Name x _) [.Lambda params body scope _] [] _ => cWord c Γ x params body scope
  | .Call (.Name x _) args [] _ => (match cCallN c Γ x args with
    | some f => some f
    | none => (match cCallV c Γ x args with
      | some f => some f
      | none => cLRg c Γ x args))
  | .Call (.Attribute o name apos) args [] pos => cCallM c Γ o name apos.endLine pos.line args
  | .ListComp elt gs scope _ => cLc c Γ elt scope gs
  | _ => none
/-- a test that is no and, or, not, if, comparison -/
def plainT : Expr → Bool
  | .UnaryOp .. => false
  | .BoolOp .. => false
  | .IfExp .. => false
  | .Compare .. => false
  | _ => true
theorem plainT_ok {e : Expr} {env : Env} (h : plainT e = true) (wh : Sem Value) : PySem.isTrue e env wh = (do let v ← wh; standAt e.pos; holding [v] (truthy v)) := by
  cases e <;> first | rfl | cases h
def stT (c : Cmp) (Γ : Gm) : Expr → Option EvB
  | .UnaryOp .Not a _ => (match c.t Γ a with
    | some f => some (bNot f)
    | none => none)
  | .BoolOp op es _ => cBoolT c Γ op es
  | .Compare a ops bs _ => (match cCmp c Γ a ops bs with
    | some f => some (bOf f)
    | none => none)
  | e => if plainT e = true then (match c.e Γ e with
    | some f => some (bTru f)
    | none => none) else none
section
variable {c : Cmp} (S : Snd c) {X : Cx} {k : Nat} {Γ : Gm} (C : CtxOk X k Γ)
include S C
omit S in
theorem cName_ok {x : Str} {pos : Pos} {f : EvD} (h : cName Γ x = some f) : PEv X (.Name x pos) f := by
  unfold cName at h
  split at h
  · rename_i hn
    split at h
    · rename_i hv
      split at h
      · rename_i i hi
        cases h
        exact pv_var (by rw [C.N]; exact idx_ok hi) (vis_ok C hv) (okName_1 hn) (okName_2 hn)
      · cases h
    · split at h
      · rename_i hg
        split at h
        · rename_i p hp
          cases h
          obtain ⟨u, v, h1, h2, h3⟩ := C.cst _ _ (assoc_ok hp)
          exact pv_glob (gl_ok C hg) h1 h2 h3 (okName_1 hn)
        · split at h
          · rename_i q hq
            cases h
            obtain ⟨n, F⟩ := q
            obtain ⟨f, fd, ps, h1, h2, h3, h4⟩ := C.fns _ _ _ (assoc_ok hq)
            exact pv_glob (v := .ref f) (gl_ok C hg) h2 rfl (fun H mu => by unfold Rep; exact ⟨f, rfl, h2⟩) (okName_1 hn)
          · cases h
      · cases h
  · cases h
omit S C in
theorem cConst_ok {v : Const} {j : Nat} {pos : Pos} {f : EvD} (h : cConst v = some f) : PEv X (.Constant v j pos) f := by
  unfold cConst at h
  split at h
  · cases h; exact pv_int
  · cases h; exact pv_bl
  · cases h; exact pv_non
  · cases h; exact pv_str
  · cases h
theorem cBin_ok {a b : Expr} {op : Operator} {pos : Pos} {f : EvD} (h : cBin c Γ a op b = some f) : PEv X (.BinOp a op b pos) f := by
  unfold cBin at h
  split at h
  · rename_i h1 h2 h3
    cases h
    exact pv_bin (opB_ok h1) (S.e C h2) (S.e C h3)
  · cases h
theorem cCmp_ok {a : Expr} {ops : List CmpOp} {bs : List Expr} {pos : Pos} {f : EvD} (h : cCmp c Γ a ops bs = some f) : PEv X (.Compare a ops bs pos) f ∧ PTv X (.Compare a ops bs pos) (bOf f) := by
  unfold cCmp at h
  split at h
  · split at h
    · rename_i h1 h2 h3
      cases h
      exact ⟨pv_cmp (opC_ok C _) (S.e C h1) (S.e C h2) h3, ptv_cmp (opC_ok C _) (S.e C h1) (S.e C h2) h3⟩
    · cases h
  · split at h
    · rename_i h1 h2 h3 h4
      cases h
      exact ⟨pv_chain (opC_ok C _) (opC_ok C _) (S.e C h1) (S.e C h2) (S.e C h3) h4, ptv_chain (opC_ok C _) (opC_ok C _) (S.e C h1) (S.e C h2) (S.e C h3) h4⟩
    · cases h
  · cases h
theorem cO_ok {e : Option Expr} {f : EvO} (h : cO c Γ e = some f) : POv X e f := by
  unfold cO at h
  split at h
  · cases h; exact pov_none
  · split at h
    · rename_i h1; cases h; exact pov_some (S.e C h1)
    · cases h
omit S C in
theorem plainIx_ok {b : Expr} (h : plainIx b = true) : PlainIx b := by
  intro o i
  cases b <;> first | rfl | cases h
theorem cSub_ok {a b : Expr} {pos : Pos} {f : EvD} (h : cSub c Γ a b = some f) : PEv X (.Subscript a b pos) f := by
  unfold cSub at h
  split at h
  · split at h
    · rename_i h1 h2 h3
      cases h
      exact pv_slice (S.e C h1) (cO_ok S C h2) (cO_ok S C h3)
    · cases h
  · split at h
    · rename_i hn
      subst hn
      split at h
      · rename_i h1
        cases h
        exact pv_revT (S.e C h1)
      · cases h
    · cases h
  · split at h
    · rename_i h1 h2 h3
      cases h
      exact pv_ix (S.e C h1) (S.e C h2) (plainIx_ok h3)
    · cases h
omit S in
theorem tyS_ok {x : Str} {T : String} (h : tyS x = some T) : tyOk T = true ∧ bootBuiltins x = some (.type T) ∧ X.mg x = none ∧ x ≠ "__name__" ∧ (x == ("__debug__" : Str)) = false := by
  unfold tyS at h
  split at h
  · rename_i e; subst e; cases h; exact ⟨by decide, by decide +kernel, C.blt _ (by decide), by decide, by decide⟩
  split at h
  · rename_i e; subst e; cases h; exact ⟨by decide, by decide +kernel, C.blt _ (by decide), by decide, by decide⟩
  split at h
  · rename_i e; subst e; cases h; exact ⟨by decide, by decide +kernel, C.blt _ (by decide), by decide, by decide⟩
  split at h
  · rename_i e; subst e; cases h; exact ⟨by decide, by decide +kernel, C.blt _ (by decide), by decide, by decide⟩
  split at h
  · rename_i e; subst e; cases h; exact ⟨by decide, by decide +kernel, C.blt _ (by decide), by decide, by decide⟩
  cases h
theorem cCallN_ok {x : Str} {es : List Expr} {p pos : Pos} {f : EvD} (h : cCallN c Γ x es = some f) : PEv X (.Call (.Name x p) es [] pos) f := by
  unfold cCallN at h
  split at h
  · split at h
    · rename_i hn
      split at h
      · rename_i F hF
        cases h
        exact pv_call0 (C.fns _ _ _ (assoc_ok hF)) C.room (gl_ok C hn.2) (okName_1 hn.1)
      · cases h
    · cases h
  · rename_i e es
    split at h
    · rename_i hn
      obtain ⟨h1, h2, h3⟩ := hn
      have h4 := h3
      rw [List.all_cons, Bool.and_eq_true] at h4
      split at h
      · rename_i n F hF
        split at h
        · rename_i fs hfs
          cases h
          exact pv_call (C.fns _ _ _ (assoc_ok hF)) C.room (gl_ok C h2) (S.a C hfs) (okName_1 h1) (star_of h4.1) (back_none h4.2)
        · cases h
      · split at h
        · rename_i ex
          subst ex
          unfold cIsi at h
          split at h
          · rename_i heq
            split at h
            · rename_i k1 k2 k3 k4
              cases heq
              cases h
              obtain ⟨q1, q2, q3, q4, q5⟩ := tyS_ok C k2
              exact pv_isi (gl_ok C h2) (C.blt _ (by decide)) q1 (gl_ok C k4) q3 q2 q4 q5 (S.e C k1) (star_of k3)
            · cases h
          · cases h
        · split at h
          · rename_i k1 k2
            cases h
            exact bltO_ok C k1 h2 (S.a C k2) h3
          · cases h
    · cases h
omit S in
theorem lam_ctx {scope : Scope} {j : Nat} (hf : ∀ x n F, (x, n, F) ∈ Γ.fns → FnG X.prog X.w X.K X.mg X.base j x n F) (hk : scope.kind = .function) (A : Around) (outer : List Env) (s : Shared) (H : Hp) (E : XK) (a c' : Addr) (hr : Room j (A.deeper (lamEnv X scope s.heap.objs.size a c'))) :
    CtxOk (lamN X A outer s H E scope a c') j { Γ with sc := scope, stc := fun _ => false, wd := none, wt := none } where
  N := C.N
  nd := C.nd
  sc := rfl
  kind := hk
  calm := rfl
  room := hr
  fns := hf
  cst := C.cst
  fn := fun x hx => by cases hx
  blt := C.blt
  exc := C.exc
  lam := fun wd hw => by cases hw
  tryw := fun wd hw => by cases hw
theorem cWord_ok {x : Str} {params : Arguments} {body : Expr} {scope : Scope} {p lpos pos : Pos} {f : EvD} (h : cWord c Γ x params body scope = some f) : PEv X (.Call (.Name x p) [.Lambda params body scope lpos] [] pos) f := by
  unfold cWord at h
  split at h
  · rename_i wd hw
    split at h
    · rename_i hh
      obtain ⟨h1, h2, h3, h4⟩ := hh
      subst h1
      split at h
      · rename_i fb hb
        cases h
        obtain ⟨co, wa, j, hj, hj1, hf⟩ := C.lam wd hw
        have L : LamS X.env.scope scope := by rw [C.sc]; exact lamS_by h4
        exact wa X j rfl rfl rfl rfl rfl (C.room.mono hj) hj1 co params body scope fb p lpos pos (gl_ok C h2) h3 L fun A outer s H E a c' hr => S.e (lam_ctx C hf L.kind A outer s H E a c' hr) hb
      · cases h
    · cases h
  · cases h
omit S in
theorem cCallV_ok' {x : Str} {e : Expr} {es : List Expr} {fs : EvA} {i : Nat} {p pos : Pos} (hi : idx x Γ.N = some i) (ha : PAv X (e :: es) fs) (h1 : okName x = true) (h2 : isVis Γ.sc x = true) (h3 : (e :: es).all noStar = true) : PEv X (.Call (.Name x p) (e :: es) [] pos) (eCallV Γ.fns i fs) := by
  rw [List.all_cons, Bool.and_eq_true] at h3
  exact pv_callV C.fns C.room (by rw [C.N]; exact idx_ok hi) (vis_ok C h2) ha (okName_1 h1) (okName_2 h1) (star_of h3.1) (back_none h3.2)
theorem cCallV_ok {x : Str} {es : List Expr} {p pos : Pos} {f : EvD} (h : cCallV c Γ x es = some f) : PEv X (.Call (.Name x p) es [] pos) f := by
  unfold cCallV at h
  split at h
  · cases h
  · split at h
    · rename_i hh
      obtain ⟨h1, h2, h3⟩ := hh
      split at h
      · rename_i k1 k2
        cases h
        exact cCallV_ok' C k1 (S.a C k2) h1 h2 h3
      · cases h
    · cases h
theorem cLRg_ok {x : Str} {es : List Expr} {p pos : Pos} {f : EvD} (h : cLRg c Γ x es = some f) : PEv X (.Call (.Name x p) es [] pos) f := by
  unfold cLRg at h
  split at h
  · split at h
    · rename_i hh
      obtain ⟨rfl, rfl, h1, h2, h3⟩ := hh
      split at h
      · rename_i k1
        cases h
        exact pv_lrg C.calm (gl_ok C h1) (gl_ok C h2) (C.blt _ (by decide)) (C.blt _ (by decide)) (S.e C k1) (star_of h3)
      · cases h
    · cases h
  · cases h
theorem cCallM_ok {o : Expr} {name : Str} {es : List Expr} {apos pos : Pos} {f : EvD} (h : cCallM c Γ o name apos.endLine pos.line es = some f) : PEv X (.Call (.Attribute o name apos) es [] pos) f := by
  unfold cCallM at h
  split at h
  · cases h
  · split at h
    · rename_i hh
      obtain ⟨h1, h2, h3, h4⟩ := hh
      split at h
      · rename_i k1 k2
        exact mtO_ok C h (S.e C k1) (S.a C k2) h1 h2 h3 h4
      · cases h
    · cases h
omit S in
theorem rel_ok {scope : Scope} (h1 : scope.kind = .function) (s : Shared) (H : Hp) (Ca : Addr) (cl : List (Str × Addr)) (fp : List Addr) : CtxOk (X.blk s H scope (compEnvC scope cl Ca X.env) fp) k (relG Γ scope) where
  N := C.N
  nd := C.nd
  sc := by
    show relS scope X.env.scope = relS scope Γ.sc
    rw [C.sc]
  kind := h1
  calm := C.calm
  room := C.room
  fns := C.fns
  cst := C.cst
  fn := fun x hx => hx
  blt := C.blt
  exc := C.exc
  lam := fun wd hw => C.lam wd hw
  tryw := fun wd hw => by cases hw
omit S in
theorem isSet_ok {e : Expr} {env : Env} (h : isSet e = false) : ∀ x, foldedSetIterable e env x = pure x := by
  intro x
  cases e <;> first | rfl | cases h
theorem cIfs_ok {es : List Expr} {f : EvB} (h : cIfs c Γ es = some f) : PTsv X es f := by
  unfold cIfs at h
  split at h
  · cases h; exact ptsv_nil
  · exact ptsv_one (S.t C h)
  · cases h
omit S C in
theorem blkC_kind {N : List Str} {sc scope : Scope} {own} (h : blkC N sc scope own = true) : scope.kind = .function := (blkOk_by h).kind
theorem cLc_ok {elt : Expr} {gs : List Comprehension} {scope : Scope} {pos : Pos} {f : EvD} (h : cLc c Γ elt scope gs = some f) : PEv X (.ListComp elt gs scope pos) f := by
  unfold cLc at h
  split at h
  · split at h
    · rename_i hh
      obtain ⟨h1, h2⟩ := hh
      split at h
      · rename_i k1 k2 k3 k4
        cases h
        have kd := blkC_kind h1
        refine pv_lc C.calm (by rw [C.N]; exact C.nd) (S.i C k1) (by rw [C.N, C.sc]; exact blkOk_by h1) (fun s H Ca cl fp => S.g (rel_ok C kd s H Ca cl fp) k2) (fun s H Ca cl fp => cIfs_ok S (rel_ok C kd s H Ca cl fp) k3)
          (fun s H Ca cl fp => S.e (rel_ok C kd s H Ca cl fp) k4) (isSet_ok C h2)
      · cases h
    · cases h
  · cases h
end
end Ev

set_option Elab.async false
set_option linter.all false
set_option maxRecDepth 100000
set_option maxHeartbeats 4000000
/-! Core13: from the text to the combinators: statements. -/
namespace Ev
open PySem PySem.Spec PyProof.Rows L2

/-- code that is not reached -/
def sNo : EvS := fun _ _ => .no
theorem psv_no {X : Cx} {s : Stmt} : PSv X s sNo := fun W tk => PS.imp ps_never fun D τ H ⟨σ, M, mu, s, st, h⟩ => h.elim
/-! ### what is walked -/
def isTup : Expr → Bool
  | .Tuple .. => true
  | _ => false
def cItC (c : Cmp) (Γ : Gm) (tg : Expr) (x : Str) : List Expr → Option EvI
  | [e] => if x = "range" then (if isGl Γ.sc x = true ∧ noStar e = true then (match c.a Γ [e] with
      | some fs => some (iRange1 fs)
      | none => none) else none)
    else if x = "enumerate" then (if isGl Γ.sc x = true ∧ noStar e = true ∧ isTup tg = true then (match c.a Γ [e] with
      | some fs => some (iEnum fs)
      | none => none) else none)
    else none
  | [e, e2] => if x = "range" then (if isGl Γ.sc x = true ∧ noStar e = true ∧ noStar e2 = true then (match c.a Γ [e, e2] with
      | some fs => some (iRange2 fs)
      | none => none) else none)
    else if x = "zip" then (if isGl Γ.sc x = true ∧ noStar e = true ∧ noStar e2 = true ∧ isTup tg = true then (match c.a Γ [e, e2] with
      | some fs => some (iZip fs)
      | none => none) else none)
    else none
  | _ => none
def isIt (x : Str) : Bool := decide (x = "range") || decide (x = "enumerate") || decide (x = "zip")
def stI (c : Cmp) (Γ : Gm) (tg : Expr) : Expr → Option EvI
  | .Call (.Name x p) es [] pos => if isIt x = true then cItC c Γ tg x es else (match c.e Γ (.Call (.Name x p) es [] pos) with
    | some f => some (iOf f)
    | none => none)
  | e => (match c.e Γ e with
    | some f => some (iOf f)
    | none => none)
def stG (c : Cmp) (Γ : Gm) : Expr → Option Tg
  | .Name x _ => if isLoc Γ x = true then (match idx x Γ.N with
    | some i => some (.nm i)
    | none => none) else none
  | .Tuple es _ _ => if es.all noStar = true then (match c.gs Γ es with
    | some ts => some (.tu ts)
    | none => none) else none
  | _ => none
def stGs (c : Cmp) (Γ : Gm) : List Expr → Option (List Tg)
  | [] => some []
  | e :: es => (match c.g Γ e, c.gs Γ es, noStar e with
    | some t, some ts, true => some (t :: ts)
    | _, _, _ => none)

/-! ### assignments -/
def notComp : Expr → Bool
  | .ListComp .. => false
  | .SetComp .. => false
  | .DictComp .. => false
  | _ => true
def isSeqE : Expr → Bool
  | .Tuple .. => true
  | .List .. => true
  | _ => false
def cSet (Γ : Gm) (x : Str) (i : Nat) (f : EvD) : EvS := if Γ.mu.contains x = true then sSetM i f else sSet i f
/-- the names of a plain tuple of local names on one line -/
def parN (Γ : Gm) (l : Nat) : List Expr → Option (List Str)
  | [] => some []
  | .Name x p :: r => if isLcl Γ.sc x = true ∧ (p.line == l) = true then (match parN Γ l r with
    | some xs => some (x :: xs)
    | none => none) else none
  | _ => none
def isLclE (Γ : Gm) : Expr → Bool
  | .Name x _ => isLcl Γ.sc x
  | _ => false
def cA2 (c : Cmp) (Γ : Gm) (x y : Str) (a b : Expr) : Option EvA := match c.e Γ a, c.e Γ b with
  | some f, some g => some (aConsX (Γ.mu.contains x) f (aConsX (Γ.mu.contains y) g aNil))
  | _, _ => none
def cA3 (c : Cmp) (Γ : Gm) (x y z : Str) (a b d : Expr) : Option EvA := match c.e Γ a, c.e Γ b, c.e Γ d with
  | some f, some g, some i => some (aConsX (Γ.mu.contains x) f (aConsX (Γ.mu.contains y) g (aConsX (Γ.mu.contains z) i aNil)))
  | _, _, _ => none
def cAsg (c : Cmp) (Γ : Gm) : Expr → Expr → Nat → Option EvS
  | .Name x p, .ListComp elt gs scope lp, _ => if isLcl Γ.sc x = true ∧ (p.line == lp.line) = true ∧ (scope.names.any fun (n, k) => n == x && (k == .local || k == .cell)) = false then (match idx x Γ.N, cLc c Γ elt scope gs with
      | some i, some f => some (cSet Γ x i f)
      | _, _ => none) else none
  | .Name x _, e, _ => if isLoc Γ x = true ∧ notComp e = true then (match idx x Γ.N, c.e Γ e with
      | some i, some f => some (cSet Γ x i f)
      | _, _ => none) else none
  | .Tuple ts k tp, .Tuple vs k2 p2, _ => if ts.length = 2 ∨ ts.length = 3 then
      (if vs.all (foldedForSure 8) = true then (match c.g Γ (.Tuple ts k tp), c.e Γ (.Tuple vs k2 p2) with
        | some t, some f => some (sUnp t f)
        | _, _ => none)
      else if ts.all (isLclE Γ) = false then (match c.g Γ (.Tuple ts k tp), c.e Γ (.Tuple vs k2 p2) with
        | some t, some f => some (sUnp t f)
        | _, _ => none)
      else if vs.all (constantsAlone 8) = true then none
      else match ts, vs with
        | [.Name x px, .Name y py], [a, b] => if isLcl Γ.sc x = true ∧ isLcl Γ.sc y = true ∧ (px.line == py.line) = true ∧ decide (x = y) = false ∧ noStar a = true ∧ noStar b = true then (match idx x Γ.N, idx y Γ.N, cA2 c Γ x y a b with
          | some i, some j, some fs => some (sPar [i, j] fs)
          | _, _, _ => none) else none
        | [.Name x px, .Name y py, .Name z pz], [a, b, d] => if isLcl Γ.sc x = true ∧ isLcl Γ.sc y = true ∧ isLcl Γ.sc z = true ∧ (px.line == py.line) = true ∧ (px.line == pz.line) = true ∧ decide (x = y) = false ∧ decide (x = z) = false ∧ decide (y = z) = false ∧ noStar a = true ∧ noStar b = true ∧ noStar d = true then (match idx x Γ.N, idx y Γ.N, idx z Γ.N, cA3 c Γ x y z a b d with
          | some i, some j, some l, some fs => some (sPar [i, j, l] fs)
          | _, _, _, _ => none) else none
        | _, _ => none)
    else (match c.g Γ (.Tuple ts k tp), c.e Γ (.Tuple vs k2 p2) with
      | some t, some f => some (sUnp t f)
      | _, _ => none)
  | .Tuple ts k tp, e, _ => if isSeqE e = false then (match c.g Γ (.Tuple ts k tp), c.e Γ e with
      | some t, some f => some (sUnp t f)
      | _, _ => none) else none
  | .Subscript o i _, e, _ => if plainIx i = true ∧ notComp e = true then (match c.e Γ e, c.e Γ o, c.e Γ i with
      | some fv, some fo, some fi => some (sSub fv fo fi)
      | _, _, _ => none) else none
  | _, _, _ => none
def stS (c : Cmp) (Γ : Gm) : Stmt → Option EvS
  | .Expr e _ => if notComp e = true then (match c.e Γ e with
    | some f => some (sExpr f)
    | none => none) else none
  | .Return (some e) _ => (match c.e Γ e with
    | some f => some (sRet f)
    | none => none)
  | .Return none _ => some sRetN
  | .Pass _ => some sNil
  | .Break _ => some sBk
  | .Continue _ => some sCt
  | .If t a b _ => (match c.t Γ t, c.ss Γ a, c.ss Γ b with
    | some ft, some fa, some fb => some (sIf ft fa fb)
    | _, _, _ => none)
  | .While t a [] _ => (match c.t Γ t, c.ss Γ a with
    | some ft, some fa => some (sWhile ft fa)
    | _, _ => none)
  | .For tg it a [] _ => (match c.g Γ tg, c.i Γ tg it, c.ss Γ a, isSet it with
    | some t, some fi, some fa, false => some (sFor t fi fa)
    | _, _, _, _ => none)
  | .Assign [t] e pos => cAsg c Γ t e pos.line
  | .AugAssign (.Name x _) op e _ => (match opI op, c.e Γ e, idx x Γ.N, isLoc Γ x with
    | some o, some f, some i, true => some (sAug i o f)
    | _, _, _, _ => none)
  | .Try body [.ExceptHandler (some (.Name x _)) (some n) [.Return (some (.Call (.Name y _) [.Name n2 _] [] _)) _] _] [] [] _ => (match Γ.wt, idx n Γ.N, c.ss { Γ with wt := none } body with
    | some wd, some _, some fb => if x = "RibbonError" ∧ y = "_law_names" ∧ n2 = n ∧ isLcl Γ.sc n = true ∧ okName n = true ∧ isGl Γ.sc x = true ∧ isGl Γ.sc y = true then some (sTryW wd fb) else none
    | _, _, _ => none)
  | .Raise (some (.Call (.Name x _) [.Constant (.str _) _ _] [] _)) none _ => if Γ.exc.contains x = true ∧ isGl Γ.sc x = true ∧ okName x = true then some (sRaise x) else some sNo
  | _ => none
def stSs (c : Cmp) (Γ : Gm) : List Stmt → Option EvS
  | [] => some sNil
  | s :: r => (match c.s Γ s, c.ss Γ r with
    | some f, some k => some (sSeq f k)
    | _, _ => none)
def cmp0 : Cmp := ⟨fun _ _ => none, fun _ _ => none, fun _ _ => none, fun _ _ _ => none, fun _ _ => none, fun _ _ => none, fun _ _ => none, fun _ _ => none⟩
def stp (c : Cmp) : Cmp := ⟨stE c, cA c, stT c, stI c, stG c, stGs c, stS c, stSs c⟩
def cmp : Nat → Cmp
  | 0 => cmp0
  | n + 1 => stp (cmp n)
def isStar : Expr → Bool
  | .Starred .. => true
  | _ => false
section
variable {c : Cmp} (S : Snd c) {X : Cx} {k : Nat} {Γ : Gm} (C : CtxOk X k Γ)
include S C
theorem stE_ok {e : Expr} {f : EvD} (h : stE c Γ e = some f) : PEv X e f := by
  unfold stE at h
  split at h
  · exact cConst_ok h
  · exact cName_ok C h
  · exact cBin_ok S C h
  · exact (cCmp_ok S C h).1
  · unfold cBool at h
    split at h
    · exact pv_one (S.e C h)
    · split at h
      · rename_i k1 k2; cases h; exact pv_and (S.e C k1) (S.e C k2)
      · rename_i k1 k2; cases h; exact pv_or (S.e C k1) (S.e C k2)
      · cases h
    · cases h
  · split at h
    · rename_i k1; cases h; exact pv_not (S.e C k1)
    · cases h
  · split at h
    · rename_i k1; cases h; exact pv_neg (S.e C k1)
    · cases h
  · split at h
    · rename_i k1 k2 k3; cases h; exact pv_ifExp (S.t C k1) (S.e C k2) (S.e C k3)
    · cases h
  · split at h
    · rename_i k1; cases h; exact pv_tup (S.a C k1)
    · cases h
  · split at h
    · rename_i k1; cases h; exact pv_lst (S.a C k1)
    · cases h
  · exact cSub_ok S C h
  · exact cWord_ok S C h
  · split at h
    · rename_i k1; cases h; exact cCallN_ok S C k1
    · split at h
      · rename_i k2; cases h; exact cCallV_ok S C k2
      · exact cLRg_ok S C h
  · exact cCallM_ok S C h
  · exact cLc_ok S C h
  · cases h
theorem stT_ok {e : Expr} {f : EvB} (h : stT c Γ e = some f) : PTv X e f := by
  unfold stT at h
  split at h
  · split at h
    · rename_i k1; cases h; exact ptv_not (S.t C k1)
    · cases h
  · rename_i op es pos
    refine ptv_of_w ?_
    have key : ∀ (es : List Expr) (f : EvB), cBoolT c Γ op es = some f → PWv X (.BoolOp op es pos) f := by
      intro es
      induction es with
      | nil => intro f h; cases h
      | cons a r ih =>
        intro f h
        cases r with
        | nil =>
          have h : c.t Γ a = some f := h
          cases op with
          | And => exact pwv_and1 (S.t C h)
          | Or => exact pwv_or1 (S.t C h)
        | cons b r =>
          have h : boolT op (c.t Γ a) (cBoolT c Γ op (b :: r)) = some f := h
          revert h
          cases k1 : c.t Γ a with
          | none => intro h; cases op <;> cases h
          | some f1 =>
            cases k2 : cBoolT c Γ op (b :: r) with
            | none => intro h; cases op <;> cases h
            | some f2 =>
              intro h
              cases op with
              | And => cases h; exact pwv_and (S.t C k1) (ih _ k2)
              | Or => cases h; exact pwv_or (S.t C k1) (ih _ k2)
    exact key es f h
  · split at h
    · rename_i k1; cases h; exact (cCmp_ok S C k1).2
    · cases h
  · split at h
    · rename_i hp
      split at h
      · rename_i k1
        cases h
        exact ptv_tru (S.e C k1) fun wh => plainT_ok hp wh
      · cases h
    · cases h
theorem stI_ok {tg e : Expr} {f : EvI} (h : stI c Γ tg e = some f) : PIv X tg e f := by
  unfold stI at h
  split at h
  · split at h
    · unfold cItC at h
      split at h
      · split at h
        · rename_i ex
          subst ex
          split at h
          · rename_i hh
            split at h
            · rename_i k1; cases h
              exact piv_range1 (gl_ok C hh.1) (C.blt _ (by decide)) (S.a C k1) (star_of hh.2)
            · cases h
          · cases h
        · split at h
          · rename_i ex
            subst ex
            split at h
            · rename_i hh
              split at h
              · rename_i k1; cases h
                have ht := hh.2.2
                cases tg <;> try cases ht
                exact piv_enum (gl_ok C hh.1) (C.blt _ (by decide)) (S.a C k1) (star_of hh.2.1)
              · cases h
            · cases h
          · cases h
      · split at h
        · rename_i ex
          subst ex
          split at h
          · rename_i hh
            split at h
            · rename_i k1; cases h
              exact piv_range2 (gl_ok C hh.1) (C.blt _ (by decide)) (S.a C k1) (by rw [star_of hh.2.1, star_of hh.2.2]; rfl) (star_of hh.2.2)
            · cases h
          · cases h
        · split at h
          · rename_i ex
            subst ex
            split at h
            · rename_i hh
              split at h
              · rename_i k1; cases h
                have ht := hh.2.2.2
                cases tg <;> try cases ht
                exact piv_zip (gl_ok C hh.1) (C.blt _ (by decide)) (S.a C k1) (star_of hh.2.1) (back_none (by rw [List.all_cons, hh.2.2.1]; rfl))
              · cases h
            · cases h
          · cases h
      · cases h
    · split at h
      · rename_i k1; cases h; exact piv_of (S.e C k1)
      · cases h
  · split at h
    · rename_i k1; cases h; exact piv_of (S.e C k1)
    · cases h
omit S C in
theorem asg_of {e : Expr} {es : List Expr} {env : Env} (h : noStar e = true) : assignEach (e :: es) env = (false, assign e env) :: assignEach es env := by
  cases e <;> first | rfl | cases h
omit S C in
theorem asg_len {es : List Expr} {env : Env} (h : es.all noStar = true) : (assignEach es env).length = es.length ∧ (assignEach es env).findIdx? (·.1) = none := by
  induction es with
  | nil => exact ⟨rfl, rfl⟩
  | cons e r ih =>
    rw [List.all_cons, Bool.and_eq_true] at h
    obtain ⟨h1, h2⟩ := ih h.2
    rw [asg_of h.1]
    refine ⟨by simp [h1], ?_⟩
    rw [List.findIdx?_cons, h2]; rfl
theorem stG_ok {e : Expr} {t : Tg} (h : stG c Γ e = some t) : PGv X e t := by
  unfold stG at h
  split at h
  · split at h
    · rename_i hl
      split at h
      · rename_i k1; cases h
        obtain ⟨h1, h2⟩ := loc_ok C hl
        exact pgv_name (by rw [C.N]; exact C.nd) (by rw [C.N]; exact idx_ok k1) h1 h2
      · cases h
    · cases h
  · split at h
    · rename_i hl
      split at h
      · rename_i k1; cases h
        obtain ⟨h1, h2⟩ := asg_len (env := X.env) hl
        exact pgv_tup C.calm (S.gs C k1) (by rw [h1, S.gl k1]) h2
      · cases h
    · cases h
  · cases h
theorem stGs_ok {es : List Expr} {ts : List Tg} (h : stGs c Γ es = some ts) : PGsv X es ts := by
  unfold stGs at h
  split at h
  · cases h; exact pgsv_nil
  · split at h
    · rename_i k1 k2 k3; cases h
      exact pgsv_cons (S.g C k1) (S.gs C k2) (by rw [asg_of k3]; rfl)
    · cases h
omit C in
theorem stGs_len {es : List Expr} {ts : List Tg} (h : stGs c Γ es = some ts) : ts.length = es.length := by
  unfold stGs at h
  split at h
  · cases h; rfl
  · split at h
    · rename_i k1 k2 k3; cases h
      rw [List.length_cons, List.length_cons, S.gl k2]
    · cases h
omit S C in
theorem sw_no {e : Expr} {t : Option Expr} {l : Nat} {env : Env} (h : notComp e = true) : swapsWith e t l env = pure false := by
  cases e <;> first | rfl | cases h
omit S C in
theorem sw_tup {e : Expr} {ts : List Expr} {k : Nat} {p : Pos} {l : Nat} {env : Env} : swapsWithSole [.Tuple ts k p] e l env = pure false := by
  show swapsWith e (some (.Tuple ts k p)) l env = pure false
  cases e <;> rfl
omit S C in
theorem sw_sub {e : Expr} {o i : Expr} {p : Pos} {l : Nat} {env : Env} (h : notComp e = true) : swapsWithSole [.Subscript o i p] e l env = pure false := by
  show swapsWith e (some (.Subscript o i p)) l env = pure false
  exact sw_no h
omit S C in
theorem st_len {ts vs : List Expr} {k k2 : Nat} {p p2 : Pos} {env : Env} (h : ¬ (ts.length = 2 ∨ ts.length = 3)) : swappedStores [.Tuple ts k p] (.Tuple vs k2 p2) env = pure none := by
  unfold swappedStores
  have e : (ts.length == 2 || ts.length == 3) = false := by
    simp only [Bool.or_eq_false_iff, beq_eq_false_iff_ne]
    exact ⟨fun z => h (.inl z), fun z => h (.inr z)⟩
  simp only [e]
  rfl
omit S C in
theorem st_fold {ts vs : List Expr} {k k2 : Nat} {p p2 : Pos} {env : Env} (h : vs.all (foldedForSure 8) = true) : swappedStores [.Tuple ts k p] (.Tuple vs k2 p2) env = pure none := by
  unfold swappedStores
  simp only [h]
  split
  · rfl
  · split
    · rfl
    · split
      · rfl
      · rfl
omit S C in
theorem filt_lt {α β : Type} {f : α → Option β} : ∀ {l : List α}, (∃ a ∈ l, f a = none) → (l.filterMap f).length < l.length
  | [], h => by obtain ⟨a, h, _⟩ := h; cases h
  | b :: r, h => by
    rw [List.filterMap_cons]
    have le : (r.filterMap f).length ≤ r.length := List.length_filterMap_le ..
    cases e : f b with
    | none => simp; omega
    | some c =>
      simp
      obtain ⟨a, ha, hf⟩ := h
      rcases List.mem_cons.mp ha with z | z
      · rw [z, e] at hf; cases hf
      · exact ⟨a, z, hf⟩
omit S in
theorem st_cell {ts vs : List Expr} {k k2 : Nat} {p p2 : Pos} (h : ts.all (isLclE Γ) = false) : swappedStores [.Tuple ts k p] (.Tuple vs k2 p2) X.env = pure none := by
  unfold swappedStores
  dsimp only
  split
  · rfl
  · split
    · rfl
    · rw [if_pos]
      rw [Bool.or_eq_true]
      left
      rw [bne_iff_ne]
      refine Nat.ne_of_lt (filt_lt ?_)
      have h2 : ∃ t ∈ ts, isLclE Γ t = false := by
        have : ¬ ∀ t ∈ ts, isLclE Γ t = true := fun z => by rw [List.all_eq_true.mpr z] at h; cases h
        obtain ⟨t, ht⟩ := Classical.not_forall.mp this
        obtain ⟨h1, h2⟩ := Classical.not_imp.mp ht
        exact ⟨t, h1, by cases q : isLclE Γ t with | true => exact absurd q h2 | false => rfl⟩
      obtain ⟨t, ht, hl⟩ := h2
      refine ⟨t, ht, ?_⟩
      cases t with
      | Name x px =>
        have hx : isLcl Γ.sc x = false := hl
        show (if (X.env.kindOf x == some .local && _) = true then some x else none) = none
        have : (X.env.kindOf x == some .local) = false := by
          rw [beq_eq_false_iff_ne]
          intro z
          have z : X.env.scope.names.lookup x = some .local := z
          rw [C.sc] at z
          unfold isLcl at hx
          rw [z] at hx
          cases hx
        rw [this]
        rfl
      | _ => rfl
omit S C in
theorem st_other {ts : List Expr} {e : Expr} {k : Nat} {p : Pos} {env : Env} (h : isSeqE e = false) : swappedStores [.Tuple ts k p] e env = pure none := by
  unfold swappedStores
  cases e <;> first | rfl | cases h
omit S C in
theorem star1 {e : Expr} (h : noStar e = true) : isStar e = false := by
  cases e <;> first | rfl | cases h
omit S in
theorem st_par2 {x y : Str} {a b : Expr} {k k2 : Nat} {px py p p2 : Pos} (h1 : isLcl Γ.sc x = true) (h2 : isLcl Γ.sc y = true) (hl : (px.line == py.line) = true) (hd : decide (x = y) = false) (ha : noStar a = true) (hb : noStar b = true)
    (hf : ¬ [a, b].all (foldedForSure 8) = true) (hc : ¬ [a, b].all (constantsAlone 8) = true) : swappedStores [.Tuple [.Name x px, .Name y py] k p] (.Tuple [a, b] k2 p2) X.env = pure (some [x, y]) := by
  have kx : X.env.kindOf x = some .local := lcl_ok C h1
  have ky : X.env.kindOf y = some .local := lcl_ok C h2
  have hk : X.env.blockKind = .function := by
    unfold Env.blockKind; rw [show X.env.scope.kind = .function by rw [C.sc]; exact C.kind]; rfl
  have hxy : x ≠ y := of_decide_eq_false hd
  have hl2 : (py.line == px.line) = true := by rw [beq_iff_eq] at hl ⊢; exact hl.symm
  have sa := star1 ha
  have sb := star1 hb
  unfold swappedStores
  simp only [List.any_cons, List.any_nil, hk, List.filterMap_cons, List.filterMap_nil, kx, ky, List.head?_cons, Option.map_some, Option.getD_some, Expr.pos, hl2, beq_self_eq_true, Bool.and_self, if_true, List.length_cons, List.length_nil, hf, hc, Bool.or_self, Bool.or_false]
  have h3 : ([x, y].eraseDups.length != 0 + 1 + 1) = false := by
    simp [List.eraseDups_cons, hxy, Ne.symm hxy]
  refine (if_neg (by decide)).trans ((if_neg (show ¬ (isStar a || isStar b) = true by rw [sa, sb]; decide)).trans ((if_neg (by rw [h3]; decide)).trans ?_))
  rfl
omit S in
theorem st_par3 {x y z : Str} {a b d : Expr} {k k2 : Nat} {px py pz p p2 : Pos} (h1 : isLcl Γ.sc x = true) (h2 : isLcl Γ.sc y = true) (h3 : isLcl Γ.sc z = true) (hl : (px.line == py.line) = true) (hl3 : (px.line == pz.line) = true) (hd : decide (x = y) = false) (hd2 : decide (x = z) = false) (hd3 : decide (y = z) = false)
    (ha : noStar a = true) (hb : noStar b = true) (hdd : noStar d = true)
    (hf : ¬ [a, b, d].all (foldedForSure 8) = true) (hc : ¬ [a, b, d].all (constantsAlone 8) = true) : swappedStores [.Tuple [.Name x px, .Name y py, .Name z pz] k p] (.Tuple [a, b, d] k2 p2) X.env = pure (some [x, y, z]) := by
  have kx : X.env.kindOf x = some .local := lcl_ok C h1
  have ky : X.env.kindOf y = some .local := lcl_ok C h2
  have kz : X.env.kindOf z = some .local := lcl_ok C h3
  have hk : X.env.blockKind = .function := by
    unfold Env.blockKind; rw [show X.env.scope.kind = .function by rw [C.sc]; exact C.kind]; rfl
  have hxy : x ≠ y := of_decide_eq_false hd
  have hxz : x ≠ z := of_decide_eq_false hd2
  have hyz : y ≠ z := of_decide_eq_false hd3
  have hl2 : (py.line == px.line) = true := by rw [beq_iff_eq] at hl ⊢; exact hl.symm
  have hl4 : (pz.line == px.line) = true := by rw [beq_iff_eq] at hl3 ⊢; exact hl3.symm
  have sa := star1 ha
  have sb := star1 hb
  have sd := star1 hdd
  unfold swappedStores
  simp only [List.any_cons, List.any_nil, hk, List.filterMap_cons, List.filterMap_nil, kx, ky, kz, List.head?_cons, Option.map_some, Option.getD_some, Expr.pos, hl2, hl4, beq_self_eq_true, Bool.and_self, if_true, List.length_cons, List.length_nil, hf, hc, Bool.or_self, Bool.or_false]
  have h5 : ([x, y, z].eraseDups.length != 0 + 1 + 1 + 1) = false := by
    simp [List.eraseDups_cons, hxy, Ne.symm hxy, hxz, hyz, Ne.symm hxz, Ne.symm hyz]
  refine (if_neg (by decide)).trans ((if_neg (show ¬ (isStar a || (isStar b || isStar d)) = true by rw [sa, sb, sd]; decide)).trans ((if_neg (by rw [h5]; decide)).trans ?_))
  rfl
omit S C in
theorem asg_one {e : Expr} {env : Env} (h : noStar e = true) : (assignEach [e] env).map (·.2) = [assign e env] := by
  rw [asg_of h]; rfl
omit S C in
theorem sub_asg {oe ie : Expr} {tpos : Pos} {env : Env} (h : plainIx ie = true) (v : Value) : assign (.Subscript oe ie tpos) env v = (do
      let ov ← holding [v] (eval oe env)
      let iv ← holding [v, ov] (eval ie env)
      standAt tpos
      holding [v, ov, iv] (setItem ov iv v)
      release [v, ov, iv] []) := by
  cases ie <;> first | rfl | cases h
omit S in
theorem cSet_ok {x : Str} {i : Nat} {p pos : Pos} {e : Expr} {f : EvD} (hl : isLoc Γ x = true) (hn : notComp e = true) (hi : idx x Γ.N = some i) (he : PEv X e f) : PSv X (.Assign [.Name x p] e pos) (cSet Γ x i f) := by
  obtain ⟨h1, h2⟩ := loc_ok C hl
  have hN : X.N.Nodup := by rw [C.N]; exact C.nd
  have hi' : X.N[i]? = some x := by rw [C.N]; exact idx_ok hi
  unfold cSet
  split
  · exact psv_setM hN hi' h1 he (sw_no hn) h2
  · exact psv_set hN hi' h1 he (sw_no hn) h2
theorem cSetLc_ok {x : Str} {i : Nat} {p pos lp : Pos} {elt : Expr} {gs : List Comprehension} {scope : Scope} {f : EvD} (hl : isLcl Γ.sc x = true) (hline : (p.line == lp.line) = true) (hsc : (scope.names.any fun (n, k) => n == x && (k == .local || k == .cell)) = false)
    (hi : idx x Γ.N = some i) (h : cLc c Γ elt scope gs = some f) : PSv X (.Assign [.Name x p] (.ListComp elt gs scope lp) pos) (cSet Γ x i f) := by
  have hlx := lcl_ok C hl
  have hN : X.N.Nodup := by rw [C.N]; exact C.nd
  have hi' : X.N[i]? = some x := by rw [C.N]; exact idx_ok hi
  have hk : X.env.scope.kind = .function := by rw [C.sc]; exact C.kind
  unfold cLc at h
  split at h
  · split at h
    · rename_i hh
      obtain ⟨h1, h2⟩ := hh
      split at h
      · rename_i k1 k2 k3 k4
        cases h
        have kd := blkC_kind h1
        unfold cSet
        split
        · exact psv_setLcM C.calm hN hi' hlx (sw_true hk hlx hline hsc) (S.i C k1) (by rw [C.N, C.sc]; exact blkOk_by h1) (fun s H Ca cl fp => S.g (rel_ok C kd s H Ca cl fp) k2) (fun s H Ca cl fp => cIfs_ok S (rel_ok C kd s H Ca cl fp) k3)
            (fun s H Ca cl fp => S.e (rel_ok C kd s H Ca cl fp) k4) (isSet_ok C h2)
        · exact psv_setLc C.calm hN hi' hlx (sw_true hk hlx hline hsc) (S.i C k1) (by rw [C.N, C.sc]; exact blkOk_by h1) (fun s H Ca cl fp => S.g (rel_ok C kd s H Ca cl fp) k2) (fun s H Ca cl fp => cIfs_ok S (rel_ok C kd s H Ca cl fp) k3)
            (fun s H Ca cl fp => S.e (rel_ok C kd s H Ca cl fp) k4) (isSet_ok C h2)
      · cases h
    · cases h
  · cases h
omit C in
theorem cA2_ok (C : CtxOk X k Γ) {x y : Str} {a b : Expr} {f : EvA} (h : cA2 c Γ x y a b = some f) (h1 : noStar a = true) (h2 : noStar b = true) : PAv X [a, b] f := by
  unfold cA2 at h
  split at h
  · rename_i k1 k2
    cases h
    exact pav_consX (S.e C k1) (pav_consX (S.e C k2) pav_nil (star_of h2)) (star_of h1)
  · cases h
omit C in
theorem cA3_ok (C : CtxOk X k Γ) {x y z : Str} {a b d : Expr} {f : EvA} (h : cA3 c Γ x y z a b d = some f) (h1 : noStar a = true) (h2 : noStar b = true) (h3 : noStar d = true) : PAv X [a, b, d] f := by
  unfold cA3 at h
  split at h
  · rename_i k1 k2 k3
    cases h
    exact pav_consX (S.e C k1) (pav_consX (S.e C k2) (pav_consX (S.e C k3) pav_nil (star_of h3)) (star_of h2)) (star_of h1)
  · cases h
theorem cAsg_ok {t e : Expr} {pos : Pos} {f : EvS} (h : cAsg c Γ t e pos.line = some f) : PSv X (.Assign [t] e pos) f := by
  unfold cAsg at h
  split at h
  · split at h
    · rename_i hh
      split at h
      · rename_i k1 k2; cases h
        exact cSetLc_ok S C hh.1 hh.2.1 hh.2.2 k1 k2
      · cases h
    · cases h
  · split at h
    · rename_i hh
      split at h
      · rename_i k1 k2; cases h
        exact cSet_ok C hh.1 hh.2 k1 (S.e C k2)
      · cases h
    · cases h
  · split at h
    · split at h
      · rename_i hf
        split at h
        · rename_i k1 k2; cases h
          exact psv_unp (S.e C k2) (S.g C k1) sw_tup (st_fold hf) (asg_one rfl)
        · cases h
      · rename_i hf
        split at h
        · rename_i hcell
          split at h
          · rename_i k1 k2; cases h
            exact psv_unp (S.e C k2) (S.g C k1) sw_tup (st_cell C hcell) (asg_one rfl)
          · cases h
        split at h
        · cases h
        · rename_i hc
          split at h
          · split at h
            · rename_i hh
              obtain ⟨q1, q2, q3, q4, q5, q6⟩ := hh
              split at h
              · rename_i k1 k2 k3; cases h
                refine psv_par C.calm (by rw [C.N]; exact C.nd) (by rw [C.N]; exact idx_ok k1) (by rw [C.N]; exact idx_ok k2) (fun z => ?_) (lcl_ok C q1) (lcl_ok C q2) (cA2_ok S C k3 q5 q6) (st_par2 C q1 q2 q3 q4 q5 q6 hf hc) sw_tup
                have e1 := idx_ok k1
                have e2 := idx_ok k2
                rw [z, e2] at e1
                cases e1
                simp at q4
              · cases h
            · cases h
          · split at h
            · rename_i hh
              obtain ⟨q1, q2, q3, q4, q5, q6, q7, q8, q9, q10, q11⟩ := hh
              split at h
              · rename_i k1 k2 k3 k4; cases h
                have e1 := idx_ok k1
                have e2 := idx_ok k2
                have e3 := idx_ok k3
                refine psv_par3 C.calm (by rw [C.N]; exact C.nd) (by rw [C.N]; exact e1) (by rw [C.N]; exact e2) (by rw [C.N]; exact e3) (fun z => ?_) (fun z => ?_) (fun z => ?_) (lcl_ok C q1) (lcl_ok C q2) (lcl_ok C q3) (cA3_ok S C k4 q9 q10 q11) (st_par3 C q1 q2 q3 q4 q5 q6 q7 q8 q9 q10 q11 hf hc) sw_tup
                · rw [z, e2] at e1; cases e1; simp at q6
                · rw [z, e3] at e1; cases e1; simp at q7
                · rw [z, e3] at e2; cases e2; simp at q8
              · cases h
            · cases h
          · cases h
    · rename_i hl
      split at h
      · rename_i k1 k2; cases h
        exact psv_unp (S.e C k2) (S.g C k1) sw_tup (st_len hl) (asg_one rfl)
      · cases h
  · split at h
    · rename_i hh
      split at h
      · rename_i k1 k2; cases h
        exact psv_unp (S.e C k2) (S.g C k1) sw_tup (st_other hh) (asg_one rfl)
      · cases h
    · cases h
  · split at h
    · rename_i hh
      split at h
      · rename_i k1 k2 k3; cases h
        refine psv_sub (S.e C k1) (S.e C k2) (S.e C k3) (sub_asg hh.1) (sw_sub hh.2) ?_ (asg_one rfl)
        rfl
      · cases h
    · cases h
  · cases h
theorem stS_ok (CS : CtxS X) {s : Stmt} {f : EvS} (h : stS c Γ s = some f) : PSv X s f := by
  unfold stS at h
  split at h
  · split at h
    · rename_i hn
      split at h
      · rename_i k1; cases h; exact psv_expr (S.e C k1) (sw_no hn)
      · cases h
    · cases h
  · split at h
    · rename_i k1; cases h; exact psv_ret (S.e C k1)
    · cases h
  · cases h; exact psv_retN
  · cases h; exact psv_pass
  · cases h; exact psv_bk
  · cases h; exact psv_ct
  · split at h
    · rename_i k1 k2 k3; cases h; exact psv_if (S.t C k1) (S.ss C CS k2) (S.ss C CS k3)
    · cases h
  · split at h
    · rename_i k1 k2; cases h; exact psv_while CS.own (S.t C k1) (S.ss C CS k2)
    · cases h
  · split at h
    · rename_i k1 k2 k3 k4; cases h; exact psv_for CS.own C.calm (S.i C k2) (S.g C k1) (S.ss C CS k3) (isSet_ok C k4)
    · cases h
  · exact cAsg_ok S C h
  · split at h
    · rename_i k1 k2 k3 k4; cases h
      obtain ⟨h1, h2⟩ := loc_ok C k4
      exact psv_aug (by rw [C.N]; exact C.nd) (by rw [C.N]; exact idx_ok k3) h1 (S.e C k2) (opI_ok k1) h2
    · cases h
  · split at h
    · rename_i wd j fb k1 k2 k3
      split at h
      · rename_i hh
        obtain ⟨h1, h2, h3, h4, h5, h6, h7⟩ := hh
        subst h1 h2 h3
        cases h
        refine C.tryw wd k1 _ _ _ j _ _ _ _ _ _ _ (by rw [C.N]; exact idx_ok k2) (lcl_ok C h4) h5 (gl_ok C h7) (gl_ok C h6) fun pn xe po => ?_
        have C2 : CtxOk (X.tr pn xe) k { Γ with wt := none } :=
          { N := C.N, nd := C.nd, sc := C.sc, kind := C.kind, calm := C.calm, room := C.room, fns := C.fns, cst := C.cst, fn := C.fn, blt := C.blt, exc := C.exc, lam := fun wd hw => C.lam wd hw, tryw := fun wd hw => by cases hw }
        exact S.ss C2 ⟨po⟩ k3
      · cases h
    · cases h
  · split at h
    · rename_i hh; cases h
      exact psv_raise C.calm (C.exc _ (by simpa using hh.1)) (gl_ok C hh.2.1) (okName_1 hh.2.2)
    · cases h; exact psv_no
  · cases h
theorem stSs_ok (CS : CtxS X) {s : List Stmt} {f : EvS} (h : stSs c Γ s = some f) : PSsv X s f := by
  unfold stSs at h
  split at h
  · cases h; exact pssv_nil
  · split at h
    · rename_i k1 k2; cases h; exact pssv_cons (S.s C CS k1) (S.ss C CS k2)
    · cases h
end
theorem snd0 : Snd cmp0 := ⟨fun _ => fun h => (nomatch h), fun _ => fun h => (nomatch h), fun _ => fun h => (nomatch h), fun _ => fun h => (nomatch h), fun _ => fun h => (nomatch h), fun _ => fun h => (nomatch h), fun h => (nomatch h), fun _ _ => fun h => (nomatch h), fun _ _ => fun h => (nomatch h)⟩
theorem snd : ∀ n, Snd (cmp n)
  | 0 => snd0
  | n + 1 => ⟨fun C => fun h => stE_ok (snd n) C h, fun C => fun h => cA_ok (snd n) C h, fun C => fun h => stT_ok (snd n) C h, fun C => fun h => stI_ok (snd n) C h, fun C => fun h => stG_ok (snd n) C h, fun C => fun h => stGs_ok (snd n) C h, fun h => stGs_len (snd n) h, fun C CS => fun h => stS_ok (snd n) C CS h, fun C CS => fun h => stSs_ok (snd n) C CS h⟩
end Ev

set_option Elab.async false
set_option linter.all false
set_option maxRecDepth 100000
set_option maxHeartbeats 4000000
/-! Core17: while an error is handled: zip of two lists, comprehensions over it. -/
namespace Ev
open PySem PySem.Spec PyProof.Rows L2 HotX
section
variable {prog : Program} {w : World} {A : Around} {E : Value → Shared → Prop} {s : Shared}
theorem listEndHot {it l x1 : Addr} {i : Nat} {items} {Q : Value → Shared → Prop} (hot : HotAt A x1 s.heap) (hxi : x1 ≠ it)
    (hit : s.heap.IsListIter it l i) (hl : s.heap.IsList l items) (hx : items[i]? = none)
    (hE : ∀ h' e, Heap.ExtBut it s.heap h' → (∃ o, h'.get? e = some o ∧ o.cls = .type "StopIteration") → E (.ref e) { s with heap := h' }) :
    wpAny (model prog w) A (Builtin.SmallTypes.nextOf (.ref it)) Q E s := by
  obtain ⟨io, hio, ic, idt⟩ := id hit
  obtain ⟨lo, hlo, _, ln, ldt⟩ := hl
  obtain ⟨hh, xo, xv, xg, xd, xc⟩ := hot
  unfold Builtin.SmallTypes.nextOf
  refine wpAny_bind (wpAny_callSpecial?_slot (name := Str.ofString "__next__") hit.typeIs slot_listiter_next (wpAny_call_entry slot_listiter_next hit.typeIs entry_listiter_next ?_ (args_listiter_next _)))
  show wpAny _ _ (field (.ref it) 0 >>= _) _ _ s
  refine wpAny_bind (wpAny_field hio idt (x := .ref l) rfl ?_)
  show wpAny _ _ (if (Value.ref l == Value.none) = true then _ else _) _ _ s
  rw [if_neg (show ¬ ((Value.ref l == Value.none) = true) from Bool.false_ne_true)]
  show wpAny _ _ (field (.ref it) 1 >>= _) _ _ s
  refine wpAny_bind (wpAny_field hio idt (x := .int i 0) rfl ?_)
  show wpAny _ _ (seqItems? (.ref l) >>= _) _ _ s
  refine wpAny_bind (wpAny_seqItems hlo ldt ?_)
  simp only [Int.toNat_natCast, hx]
  refine wpAny_bind (wpAny_rule (wpAny_bind (wpAny_setField hio idt (by simp) ?_)))
  show wpAny _ _ (newExc (.type "StopIteration") [] >>= _) _ _ _
  refine wpAny_bind ?_
  simp only [newExc, newTuple]
  refine wpAny_bind (wpAny_newObj_type ?_ (by size_fits))
  refine wpAny_bind (m := firstArgMember _ _) (wpAny_of_eq (a := Value.none) (by first | rfl | (simp only [firstArgMember]; rfl)) ?_)
  refine wpAny_newObj_type ?_ (by size_fits)
  have e1 : (s.heap.update it (Obj.mapFields (·.setIfInBounds 0 Value.none))).get? x1 = some xo := by
    rw [Heap.get?_update_other _ _ (fun z => hxi z.symm)]
    exact xg
  have old : ∀ b o, b ≠ it → s.heap.get? b = some o → (s.heap.update it (Obj.mapFields (·.setIfInBounds 0 Value.none))).get? b = some o := fun b o hb e => by
    rw [Heap.get?_update_other _ _ (fun z => hb z.symm)]
    exact e
  refine raiseNew_hot ⟨hh, xo, xv, Heap.get?_push_of_some _ (Heap.get?_push_of_some _ e1), xd, xc⟩ (Nat.ne_of_lt (Heap.lt_size (Heap.get?_push_of_some _ e1))) (Heap.get?_push_size _ rfl) rfl (by simp; omega) ?_
  refine hE _ _ (fun b o hb e => ?_) ⟨_, Heap.get?_update_self _ (Heap.get?_push_size _ rfl) rfl, rfl⟩
  have e3 := old b o hb e
  rw [Heap.get?_update_other _ _ (Nat.ne_of_gt (Heap.lt_size (Heap.get?_push_of_some _ e3)))]
  exact Heap.get?_push_of_some _ (Heap.get?_push_of_some _ e3)
theorem HotAt.ext {x1 : Addr} {h h' : Heap} (t : HotAt A x1 h) (k : ∀ o, h.get? x1 = some o → h'.get? x1 = some o) : HotAt A x1 h' := by
  obtain ⟨a, o, vs, b, c⟩ := t
  exact ⟨a, o, vs, k o b, c⟩
/-- a list walked while the error at x1 is handled -/
theorem drawsHot {x1 : Addr} (it l : Addr) (hne : l ≠ it) (hx : x1 ≠ it) (items : Array Value) :
    Draws prog w A it [it, l, x1] items.size (fun i v => items[i]? = some v) (fun i h => h.IsListIter it l i ∧ h.IsList l items ∧ HotAt A x1 h) where
  live := fun _ _ st => let ⟨o, ho, _⟩ := st.1; ⟨o, ho⟩
  frame := fun _ _ _ st hk => ⟨st.1.at fun o e => hk it (by simp) o e, st.2.1.at fun o e => hk l (by simp) o e, HotAt.ext st.2.2 fun o e => hk x1 (by simp) o e⟩
  item := fun i s Q E hi st hQ => by
    refine wpAny_nextOf_list_item st.1 st.2.1 (x := items[i]) (by simp [hi]) fun h' hit' same => ?_
    exact hQ _ h' s.toks (by simp [hi]) ⟨hit', st.2.1.extBut same.extBut hne, HotAt.ext st.2.2 fun o e => (same.2 x1 hx).trans e⟩ same
  done := fun s Q E st hE => listEndHot st.2.2 hx st.1 st.2.1 (by simp) hE
end
theorem zipSepHot {N a b x1 : Nat} (ha : a < N) (hb : b < N) (hx : x1 ∉ [N + 4, N + 2, N + 3, N, N + 1]) : ZipSep2 (N + 4) (N + 2) (N + 3) N (N + 1) [N, a, x1] [N + 1, b, x1] := by
  simp only [List.mem_cons, List.not_mem_nil, or_false, not_or] at hx
  obtain ⟨x4, x2, x3, x0, x1'⟩ := hx
  have s0 : N < N + 1 := Nat.lt_succ_self N
  constructor <;> simp only [List.mem_cons, List.not_mem_nil, or_false, not_or, true_or, ne_eq] <;> first | trivial | exact (show ¬ (_ : Nat) = _ by omega) | exact ⟨(show ¬ (_ : Nat) = _ by omega), (show ¬ (_ : Nat) = _ by omega), (show ¬ (_ : Nat) = _ by omega)⟩

open L2H in
theorem turn_zipH {P : Program} {w : World} {K : PySem.W.Frag} {elts : List Expr} {kk N a b : Nat} {tpos : Pos} {vs ws : List V} (h1 : a < N) (h2 : b < N) :
    TurnH P w K (.Tuple elts kk tpos) (Itz2 K (.l a vs) (.l b ws)) [N + 4, N + 2, N + 3, N, N + 1] (N + 4)
      (fun i h => IsZip h (N + 4) (N + 2) (N + 3) .none ∧ IsTupOf2 h (N + 2) (.ref N) (.ref (N + 1)) ∧ (∃ x y, IsTupOf2 h (N + 3) x y) ∧ h.IsListIter N a i ∧ h.IsListIter (N + 1) b i) where
  mem := by simp
  obj := fun i h st c hc => by
    obtain ⟨hz, hTI, ⟨x, y, hTO⟩, i1, i2⟩ := st
    have e' : c = N + 4 ∨ c = N + 2 ∨ c = N + 3 ∨ c = N ∨ c = N + 1 := by simpa using hc
    rcases e' with q | q | q | q | q
    · rw [q]; exact ⟨_, hz, fun v q => nomatch q⟩
    · rw [q]; exact ⟨_, hTI, fun v q => nomatch q⟩
    · rw [q]; exact ⟨_, hTO, fun v q => nomatch q⟩
    · rw [q]; exact Src.it_obj (v := .none) (s := .l a vs) i1
    · rw [q]; exact Src.it_obj (v := .none) (s := .l b ws) i2
  keep := fun i h h' st k => by
    obtain ⟨hz, hTI, ⟨x, y, hTO⟩, i1, i2⟩ := st
    exact ⟨k (N + 4) (by simp) _ hz, k (N + 2) (by simp) _ hTI, ⟨x, y, k (N + 3) (by simp) _ hTO⟩, i1.at fun o q => k N (by simp) o q, i2.at fun o q => k (N + 1) (by simp) o q⟩
  item := by
    intro X hP hw hK hc i pins s σ H E I hf st hg
    subst hP hw hK
    obtain ⟨hz, hTI, hTO, i1, i2⟩ := st
    obtain ⟨o1, o2, l1, l2⟩ := hg
    obtain ⟨p, ⟨hh, v1, q1, q2⟩, hp⟩ := hc
    have pin := I.pin p (List.mem_append_left _ hp)
    have hot : HotAt X.A.in1 p.1 s.heap := ⟨hh, p.2, v1, pin.1, q1, q2⟩
    have hx : p.1 ∉ [N + 4, N + 2, N + 3, N, N + 1] := fun z => (hf p.1 z).2.2.2.2.2 p (List.mem_append_left _ hp) rfl
    obtain ⟨its, rv, pl, _⟩ := I.list o1
    obtain ⟨jts, rw_, pm, _⟩ := I.list o2
    have hlv : its.toArray.size = vs.length := by have := rv.length; simp; omega
    have hlw : jts.toArray.size = ws.length := by have := rw_.length; simp; omega
    have D1 := drawsHot (prog := X.prog) (w := X.w) (A := X.A.in1) (x1 := p.1) N a (Nat.ne_of_lt h1) (fun z => hx (by rw [z]; simp)) its.toArray
    have D2 := drawsHot (prog := X.prog) (w := X.w) (A := X.A.in1) (x1 := p.1) (N + 1) b (Nat.ne_of_lt (Nat.lt_succ_of_lt h2)) (fun z => hx (by rw [z]; simp)) jts.toArray
    have Wz := WalksT.zipD2 (zipSepHot h1 h2 hx) D1 D2
    have hzl : N + 4 < s.heap.objs.size := Heap.lt_size hz
    have l1' : i < its.toArray.size := by rw [hlv]; exact l1
    have l2' : i < jts.toArray.size := by rw [hlw]; exact l2
    refine Wz.item i s _ _ (by omega) ⟨hz, hTI, hTO, ⟨i1, pl.isList, hot⟩, ⟨i2, pm.isList, hot⟩⟩ fun T vals h' tk hv hT hit mid keep => ?_
    refine ⟨_, rfl, Wz.go elts kk tpos i T _ _ _ mid fun h'' st'' keep2 => ?_⟩
    obtain ⟨x1, x2, r1, r2, rfl⟩ := hv
    obtain ⟨y1, e1⟩ : ∃ y, vs[i]? = some y := ⟨vs[i], List.getElem?_eq_getElem l1⟩
    obtain ⟨y2, e2⟩ : ∃ y, ws[i]? = some y := ⟨ws[i], List.getElem?_eq_getElem l2⟩
    obtain ⟨u1, f1, ry1⟩ := rv.get e1
    obtain ⟨u2, f2, ry2⟩ := rw_.get e2
    rw [List.getElem?_toArray, f1] at r1
    rw [List.getElem?_toArray, f2] at r2
    cases r1
    cases r2
    have napart := Wz.apart i T _ mid
    obtain ⟨oT, hT1, hT2, hT3⟩ := hit
    have hT2' : h''.get? T = some oT := keep2 T oT napart hT1
    have sub6 : ∀ c ∈ [N + 4, N + 3, N, N + 1], c ∈ [N + 4, N + 2, N + 3, N, N + 1] := fun c hc => sub5 hc
    have new : ObjOk X.prog X.w (upd H T (.tup [y1, y2])) h'' T (.tup [y1, y2]) :=
      ⟨by show 2 ≤ sizeLine; decide, [x1, x2], .cons ry1 (.cons ry2 .nil), ⟨oT, hT2', hT2, by simpa using hT3⟩⟩
    have I1 : Inv X pins σ (upd H T (.tup [y1, y2])) { s with heap := h'', toks := tk } :=
      I.turnedNew (ch := [N + 4, N + 2, N + 3, N, N + 1]) (fun c o hb q => keep2 c o (fun z => hb (sub5 z)) (keep c o (fun z => hb (sub5 z)) q)) hf hT new
    obtain ⟨z'', TI'', TO'', ⟨i1'', _⟩, ⟨i2'', _⟩⟩ := st''
    refine ⟨.ref T, _, I1, rfl, ⟨T, y1, y2, rfl, I.hok.fresh hT, rfl, e1, e2⟩, ⟨z'', TI'', TO'', i1'', i2''⟩, fun c hcm => ?_⟩
    have hlt : c < s.heap.objs.size := by
      have e' : c = N + 4 ∨ c = N + 2 ∨ c = N + 3 ∨ c = N ∨ c = N + 1 := by simpa using hcm
      rcases e' with q | q | q | q | q <;> rw [q]
      · exact hzl
      · exact (show (N : Nat) + 2 < s.heap.objs.size by omega)
      · exact (show (N : Nat) + 3 < s.heap.objs.size by omega)
      · exact (show (N : Nat) < s.heap.objs.size by omega)
      · exact (show (N : Nat) + 1 < s.heap.objs.size by omega)
    rw [upd_ne (Nat.ne_of_lt (Nat.lt_of_lt_of_le hlt hT))]
    exact (hf c hcm).1
  done := by
    intro X hP hw hK hc i pins s σ H E I hf st hg
    subst hP hw hK
    obtain ⟨hz, hTI, hTO, i1, i2⟩ := st
    obtain ⟨o1, o2, hi⟩ := hg
    obtain ⟨p, ⟨hh, v1, q1, q2⟩, hp⟩ := hc
    have pin := I.pin p (List.mem_append_left _ hp)
    have hot : HotAt X.A.in1 p.1 s.heap := ⟨hh, p.2, v1, pin.1, q1, q2⟩
    have hx : p.1 ∉ [N + 4, N + 2, N + 3, N, N + 1] := fun z => (hf p.1 z).2.2.2.2.2 p (List.mem_append_left _ hp) rfl
    obtain ⟨its, rv, pl, _⟩ := I.list o1
    obtain ⟨jts, rw_, pm, _⟩ := I.list o2
    have hlv : its.toArray.size = vs.length := by have := rv.length; simp; omega
    have hlw : jts.toArray.size = ws.length := by have := rw_.length; simp; omega
    have D1 := drawsHot (prog := X.prog) (w := X.w) (A := X.A.in1) (x1 := p.1) N a (Nat.ne_of_lt h1) (fun z => hx (by rw [z]; simp)) its.toArray
    have D2 := drawsHot (prog := X.prog) (w := X.w) (A := X.A.in1) (x1 := p.1) (N + 1) b (Nat.ne_of_lt (Nat.lt_succ_of_lt h2)) (fun z => hx (by rw [z]; simp)) jts.toArray
    have hi' : i = min its.toArray.size jts.toArray.size := by rw [hlv, hlw]; exact hi
    subst hi'
    exact (WalksT.zipD2 (zipSepHot h1 h2 hx) D1 D2).done s _ _ ⟨hz, hTI, hTO, ⟨i1, pl.isList, hot⟩, ⟨i2, pm.isList, hot⟩⟩ fun h' tk keep => ⟨rfl, I.turnedL (t' := tk) (ch := [N + 4, N + 2, N + 3, N, N + 1]) (fun c o hb q => keep c o (fun z => hb (sub5 z)) q) hf⟩
  self := fun _ _ _ _ _ st h => wpAny_pyIter_zip st.1 h
end Ev

set_option Elab.async false
set_option linter.all false
set_option maxRecDepth 100000
set_option maxHeartbeats 4000000
/-! Core18: while an error is handled: comprehensions, isinstance of the error, a def that gets it. -/
namespace Ev
open PySem PySem.Spec PyProof.Rows L2 L2H HotX
/-- the block's context, with the pins of the def -/
abbrev blkP (X : Cx) (s : Shared) (H : Hp) (scope : Scope) (ce : Env) (fp : List Addr) : Cx := (X.blk s H scope ce fp).tr X.pn fun _ _ => False
section
variable {X : Cx} {elt tg iter : Expr} {ifs : List Expr} {scope : Scope} {own : List (Str × Nat)} {wi : TI} {g : TG} {tt : TT} {te : TE}
theorem lcH_core {pins : List (Addr × Obj)} {s : Shared} {τ : L2.St} {H : Hp} {Q : VK} {lp ip : Pos} {R : Value → Shared → Prop}
    (hot : HotC X) (nd : X.N.Nodup) (I : Inv X pins τ H s) (hi : PIH X tg iter wi) (ok : BlkOk X.N X.env.scope scope own)
    (hg : ∀ s H C cl fp, PG (blkP X s H scope (compEnvC scope cl C X.env) fp) tg g) (ht : ∀ s H C cl fp, PTs (blkP X s H scope (compEnvC scope cl C X.env) fp) ifs tt)
    (he : ∀ s H C cl fp, PE (blkP X s H scope (compEnvC scope cl C X.env) fp) elt te) (hs : ∀ x, foldedSetIterable iter X.env x = pure x)
    (q0 : tLc wi g tt te (own.map (·.2)) τ H Q)
    (fin : ∀ D C s' m H', Inv X pins τ H' s' → Q (.ref D) H' → s'.heap.Ns C m → FpOk X pins H' C → compPost (model X.prog X.w) X.A X.xe none R (.ref D) C (.ok .next) s') :
    wpAny (model X.prog X.w) X.A (comprehension (.ListComp elt [⟨tg, iter, ifs, 0⟩] scope lp) scope X.env ip (newList []) false (eval iter X.env) none) R X.xe s := by
  have captured : ∀ y ∈ scope.names, y.2 = .free → ∃ c, X.env.cells.lookup y.1 = some c := fun y hy ek =>
    (ok.free y hy ek).elim (fun z => I.ok.has _ (.inl z)) (fun z => I.ok.has _ (.inr z))
  refine wpAny_comprehension_free (use := none) rfl hs (closure_ok captured) ok.kind (fun y hy ek => by rw [ok.uniq y hy, ek]) (thn (hi.run pins s τ H _ I q0) fun xv sa ha => thn ha fun iv sb hb => ?_)
  obtain ⟨it, fp, tn, J, Hb, ei, Ib, T, stb, fb, q⟩ := hb
  subst ei
  refine wpAny_newObj_type (newEnv_comp ?_) (by show 0 ≤ sizeLine; decide)
  generalize hD : sb.heap.objs.size = D
  have nD : Hb D = none := Ib.hok.fresh (Nat.le_of_eq hD)
  obtain ⟨W, ⟨m0, w0⟩, step⟩ := q D nD
  generalize hsc : ({ sb with heap := sb.heap.push { cls := .type "list", data := .seq ([] : List Value).toArray } } : Shared) = sc
  have heapc : sc.heap = sb.heap.push { cls := .type "list", data := .seq ([] : List Value).toArray } := by rw [← hsc]
  have Ic : Inv X pins τ (upd Hb D (.lst [])) sc := by
    rw [← hsc]
    refine Ib.laid (t' := sb.toks) (fun b o e => Heap.get?_push_of_some _ e) (Nat.le_of_eq hD) ⟨Nat.zero_le _, [], 0, .nil, ?_⟩
    rw [← hD]
    exact Heap.get?_push_size _ rfl
  have fpLt : ∀ b ∈ fp, b < sb.heap.objs.size := fun b hb => (T.obj _ _ stb b hb).elim fun o e => Heap.lt_size e.1
  have fc : ∀ b ∈ fp, FpOk X pins (upd Hb D (.lst [])) b ∧ b < sc.heap.objs.size := fun b hb => by
    have lt := fpLt b hb
    refine ⟨⟨?_, (fb b hb).2⟩, by rw [heapc, Heap.size_push]; exact Nat.lt_succ_of_lt lt⟩
    rw [upd_ne (by rw [← hD]; exact Nat.ne_of_lt lt)]
    exact (fb b hb).1
  have stc : tn 0 sc.heap := T.keep _ _ _ stb fun b _ o e => by rw [heapc]; exact Heap.get?_push_of_some _ e
  have Id0 := block_start Ic ok nd fc
  have pg := hg sc (upd Hb D (.lst [])) sc.heap.objs.size (cellsFrom (sc.heap.objs.size + 1) scope.names (cloFrom X.env.cells scope.names [])) fp
  have pt := ht sc (upd Hb D (.lst [])) sc.heap.objs.size (cellsFrom (sc.heap.objs.size + 1) scope.names (cloFrom X.env.cells scope.names [])) fp
  have pe := he sc (upd Hb D (.lst [])) sc.heap.objs.size (cellsFrom (sc.heap.objs.size + 1) scope.names (cloFrom X.env.cells scope.names [])) fp
  show codeAny _ _ (.compStart (.ListComp elt [⟨tg, iter, ifs, 0⟩] scope lp) 0 (.ref it) (.ref D) (compEnvC scope (cellsFrom (sc.heap.objs.size + 1) scope.names (cloFrom X.env.cells scope.names [])) sc.heap.objs.size X.env)) (compPost (model X.prog X.w) X.A X.xe none R (.ref D) sc.heap.objs.size) { sc with heap := pushCells (sc.heap.push { cls := .type "dict", data := .dict #[] }) scope.names }
  have nfp : ∀ b ∈ fp, (upd Hb D (.lst [])) b = none := fun b hb => (fc b hb).1.1
  generalize hce : compEnvC scope (cellsFrom (sc.heap.objs.size + 1) scope.names (cloFrom X.env.cells scope.names [])) sc.heap.objs.size X.env = ce at Id0 pg pt pe ⊢
  have ceL : ce.locals = sc.heap.objs.size := by subst hce; rfl
  generalize hHc : upd Hb D (.lst []) = Hc at Ic Id0 pg pt pe w0 nfp fc
  have keepd : ∀ b o, sc.heap.get? b = some o → (pushCells (sc.heap.push { cls := .type "dict", data := .dict #[] }) scope.names).get? b = some o := fun b o e => pushCells_keeps _ _ _ _ (Heap.get?_push_of_some _ e)
  generalize hsd : ({ sc with heap := pushCells (sc.heap.push { cls := .type "dict", data := .dict #[] }) scope.names } : Shared) = sd at Id0 ⊢
  have std : tn 0 sd.heap := T.keep _ _ _ stc fun b _ o e => by rw [← hsd]; exact keepd b o e
  have hotB : HotC (blkP X sc Hc scope ce fp) := hot
  have Id : Inv (blkP X sc Hc scope ce fp) [] (wipe τ (own.map (·.2))) Hc sd :=
    ⟨Id0.ok.toTry _ _, Id0.os, Id0.bare, Id0.base, Id0.loc, Id0.cell, Id0.free, Id0.freeC, fun p hp => by
      have hp : p ∈ X.pn ++ ([] : List (Addr × Obj)) := hp
      rw [List.append_nil] at hp
      obtain ⟨a1, a2, a3, a4, a5⟩ := Ic.pin p (List.mem_append_left _ hp)
      have z1 : sd.heap.get? p.1 = some p.2 := by rw [← hsd]; exact keepd _ _ a1
      have z2 : p.1 ≠ ce.locals := by rw [ceL]; exact Nat.ne_of_lt (Heap.lt_size a1)
      have z3 : p.1 ∉ frs X.stack := fun hm => (List.mem_cons.mp (Ic.stkSub p.1 hm)).elim a3 a4
      exact ⟨z1, a2, z2, z3, a5⟩, Id0.hok, Id0.len⟩
  have apart : ∀ {τ' : L2.St} {H' : Hp} {s' : Shared}, Inv (blkP X sc Hc scope ce fp) [] τ' H' s' → (∀ b ∈ fp, H' b = none) → ∀ b ∈ fp, FpOk (blkP X sc Hc scope ce fp) [] H' b := fun {τ' H' s'} I' hn b hb =>
    ⟨hn b hb, (I'.ok.exf b hb).1, I'.ok.exfs b hb, .inl hb, fun x c e => (I'.ok.exf b hb).2 x c e, fun p hp => by
      have hp : p ∈ X.pn ++ ([] : List (Addr × Obj)) := hp
      rw [List.append_nil] at hp
      exact (fc b hb).1.2.2.2.2.2 p (List.mem_append_left _ hp)⟩
  have loop : codeAny (model X.prog X.w) X.A (.compLoop (.ListComp elt [⟨tg, iter, ifs, 0⟩] scope lp) 0 (.ref it) (.ref D) ce) (compPost (model X.prog X.w) X.A X.xe none R (.ref D) sc.heap.objs.size) sd := by
    refine compLoop_any (fun n s' => ∃ i H', Inv (blkP X sc Hc scope ce fp) [] (wipe τ (own.map (·.2))) H' s' ∧ tn i s'.heap ∧ (∀ b ∈ fp, H' b = none) ∧ W i n H') ?_ m0 ⟨0, Hc, Id, std, nfp, w0⟩
    rintro n se ⟨i, He, Ie, ste, ne_, we⟩
    rcases step i n He we with ⟨stop, qq⟩ | ⟨go, Nx, hNx, turn⟩
    · refine thnF (T.done (blkP X sc Hc scope ce fp) rfl rfl rfl hotB i [] se _ He (fun _ _ => False) Ie (apart Ie ne_) ste stop) fun r sf ⟨hr, If⟩ => ?_
      subst hr
      have Ig : Inv X pins τ He sf := Ic.call' (ch := fp) If.os If.base If.hok If.bare fun b hb => ⟨(fc b hb).1.2.2.2.1, (fc b hb).1.2.1, (fc b hb).1.2.2.2.2.1, (fc b hb).1.2.2.2.2.2⟩
      have nC : He sc.heap.objs.size = none := by
        have z : He ce.locals = none := If.free
        rw [ceL] at z
        exact z
      obtain ⟨m, hn, _⟩ := If.loc
      have hn : sf.heap.Ns ce.locals m := hn
      rw [ceL] at hn
      exact fin D sc.heap.objs.size sf m He Ig qq hn (Ic.fpOk (Nat.le_refl _) nC)
    · refine thnF (T.item (blkP X sc Hc scope ce fp) rfl rfl rfl hotB i [] se _ He (fun _ _ => False) Ie (apart Ie ne_) ste go) fun r sf ⟨u, hr, hf⟩ => ?_
      subst hr
      refine thnF hf fun _ sg ⟨x, Hg, Ig, rg, yg, stg, ng⟩ => ?_
      have Ig' := Ig.pinned (apart Ig ng) (T.obj _ _ stg)
      refine thnF (pg.run _ sg _ Hg x u _ Ig' rg (turn x Hg yg)) fun _ sh ⟨τh, Hh, Ih, hw, qh⟩ => ?_
      refine thnF (pt.run _ sh τh Hh _ Ih qh) fun b si ⟨Hi, Ii, qi⟩ => ?_
      have again : ∀ {s' : Shared} {H' : Hp}, Inv (blkP X sc Hc scope ce fp) ([] ++ pinsAt fp sg.heap) τh H' s' → Nx H' → ∃ m, m < n ∧ ∃ i H', Inv (blkP X sc Hc scope ce fp) [] (wipe τ (own.map (·.2))) H' s' ∧ tn i s'.heap ∧ (∀ b ∈ fp, H' b = none) ∧ W i m H' := fun {s' H'} I' nx => by
        obtain ⟨m', hm, w'⟩ := hNx H' nx
        have stay : ∀ b ∈ fp, ∀ o, sg.heap.get? b = some o → s'.heap.get? b = some o ∧ H' b = none := fun b hb o e =>
          have z := I'.pin (b, o) (List.mem_append_right _ (List.mem_append_right _ (mem_pinsAt hb e)))
          ⟨z.1, z.2.1⟩
        have lens : (wipe τ (own.map (·.2))).length = τh.length := by rw [← hw, wipe_length]
        refine ⟨m', hm, i + 1, H', (I'.unpinned (pins := [])).weak lens (fun j v e => ?_), T.keep _ _ _ stg fun b hb o e => (stay b hb o e).1, fun b hb => ?_, w'⟩
        · rw [← hw] at e
          exact (wipe_some e).1
        · obtain ⟨o, e, _⟩ := T.obj _ _ stg b hb
          exact (stay b hb o e).2
      cases b with
      | false =>
        simp only [Bool.false_eq_true, if_false] at qi ⊢
        exact again Ii qi
      | true =>
        simp only [if_true] at qi ⊢
        refine thnF (pe.run _ si τh Hi _ Ii qi) fun z sj ⟨yv, Hj, Ij, rj, acc, hDj, hzj, nx⟩ => ?_
        exact L2.app_ok (X := blkP X sc Hc scope ce fp) Ij hDj hzj rj fun sk Ik => again Ik nx
  exact codeAny_compStart_list loop (T.self X.A 0 _ _ _ std loop)
/-- a comprehension while an error is handled -/
theorem pe_lcH {pos : Pos} (hot : HotC X) (nd : X.N.Nodup) (hi : PIH X tg iter wi) (ok : BlkOk X.N X.env.scope scope own)
    (hg : ∀ s H C cl fp, PG (blkP X s H scope (compEnvC scope cl C X.env) fp) tg g) (ht : ∀ s H C cl fp, PTs (blkP X s H scope (compEnvC scope cl C X.env) fp) ifs tt)
    (he : ∀ s H C cl fp, PE (blkP X s H scope (compEnvC scope cl C X.env) fp) elt te) (hs : ∀ x, foldedSetIterable iter X.env x = pure x) :
    PE X (.ListComp elt [⟨tg, iter, ifs, 0⟩] scope pos) (tLc wi g tt te (own.map (·.2))) := by
  refine ⟨fun pins s τ H Q I q0 => ?_⟩
  rw [eval_ListComp]
  refine lcH_core hot nd I hi ok hg ht he hs q0 fun D C s' m H' I' q hn f => ⟨m, hn, fun h'' sb => ?_⟩
  obtain ⟨f0, f1, f2, f3, f4, f5⟩ := f
  exact ⟨.ref D, H', I'.turned (t' := s'.toks) (fun b o hb e => (sb.2 b hb).trans e) f0 f1 f3 f4 f5, rfl, q⟩
end
end Ev

set_option Elab.async false
set_option linter.all false
set_option maxRecDepth 100000
set_option maxHeartbeats 4000000
/-! Core19: [x for x, y in zip(a, b) if y], also while an error is handled. -/
namespace Ev
open PySem PySem.Spec PyProof.Rows L2 L2H HotX
/-! ### a tuple taken apart while an error is handled -/
section
variable {prog : Program} {w : World} {A : Around} {E : Value → Shared → Prop} {s : Shared}
theorem tupEndHot {it t x1 : Addr} {i : Nat} {items} {Q : Option Value → Shared → Prop} (hot : HotAt A x1 s.heap) (hxi : x1 ≠ it)
    (hit : s.heap.IsTupleIter it t i) (ht : s.heap.IsTuple t items) (hx : items[i]? = none)
    (hQ : ∀ h', Heap.ExtBut it s.heap h' → Q none { s with heap := h' }) : wpAny (model prog w) A (pyNext (.ref it)) Q E s := by
  obtain ⟨io, hio, ic, idt⟩ := id hit
  obtain ⟨lo, hlo, _, ln, ldt⟩ := ht
  obtain ⟨hh, xo, xv, xg, xd, xc⟩ := hot
  unfold pyNext
  refine wpAny_bind (wpAny_attempt (wpAny_callSpecial?_slot (name := Str.ofString "__next__") hit.typeIs F.slot_tuple_iterator_next (wpAny_call_entry F.slot_tuple_iterator_next hit.typeIs F.entry_tuple_iterator_next ?_ (F.args_tuple_iterator_next_1 _))))
  show wpAny _ _ (field (.ref it) 0 >>= _) _ _ s
  refine wpAny_bind (wpAny_field hio idt (x := .ref t) rfl ?_)
  show wpAny _ _ (if (Value.ref t == Value.none) = true then _ else _) _ _ s
  rw [if_neg (show ¬ ((Value.ref t == Value.none) = true) from Bool.false_ne_true)]
  show wpAny _ _ (field (.ref it) 1 >>= _) _ _ s
  refine wpAny_bind (wpAny_field hio idt (x := .int i 0) rfl ?_)
  show wpAny _ _ (seqItems? (.ref t) >>= _) _ _ s
  refine wpAny_bind (wpAny_seqItems hlo ldt ?_)
  simp only [Int.toNat_natCast, hx]
  refine wpAny_bind (wpAny_rule (wpAny_bind (wpAny_setField hio idt (by simp) ?_)))
  show wpAny _ _ (newExc (.type "StopIteration") [] >>= _) _ _ _
  refine wpAny_bind ?_
  simp only [newExc, newTuple]
  refine wpAny_bind (wpAny_newObj_type ?_ (by size_fits))
  refine wpAny_bind (m := firstArgMember _ _) (wpAny_of_eq (a := Value.none) (by first | rfl | (simp only [firstArgMember]; rfl)) ?_)
  refine wpAny_newObj_type ?_ (by size_fits)
  have old : ∀ b o, b ≠ it → s.heap.get? b = some o → (s.heap.update it (Obj.mapFields (·.setIfInBounds 0 Value.none))).get? b = some o := fun b o hb e => by
    rw [Heap.get?_update_other _ _ (fun z => hb z.symm)]
    exact e
  have e1 := old x1 xo hxi xg
  refine raiseNew_hot ⟨hh, xo, xv, Heap.get?_push_of_some _ (Heap.get?_push_of_some _ e1), xd, xc⟩ (Nat.ne_of_lt (Heap.lt_size (Heap.get?_push_of_some _ e1))) (Heap.get?_push_size _ rfl) rfl (by simp; omega) ?_
  refine wpAny_bind (wpAny_isInstance (T := "StopIteration") (b := true) ⟨_, Heap.get?_update_self _ (Heap.get?_push_size _ rfl) rfl, rfl⟩ isSubtype_stop ?_)
  refine wpAny_pure (hQ _ fun b o hb e => ?_)
  have e3 := old b o hb e
  rw [Heap.get?_update_other _ _ (Nat.ne_of_gt (Heap.lt_size (Heap.get?_push_of_some _ e3)))]
  exact Heap.get?_push_of_some _ (Heap.get?_push_of_some _ e3)
theorem itemsTupHot {t x1 : Addr} {items : Array Value} {Q : List Value → Shared → Prop} (hot : HotAt A x1 s.heap) (ht : IsTup s.heap t items)
    (hQ : ∀ h', Heap.ExtBut s.heap.objs.size s.heap h' → Q items.toList { s with heap := h' }) : wpAny (model prog w) A (unpackItems (.ref t) items.size none) Q E s := by
  have apart : t ≠ s.heap.objs.size := by obtain ⟨o, ho, _⟩ := ht; exact Nat.ne_of_lt (Heap.lt_size ho)
  obtain ⟨hh, xo, xv, xg, xd, xc⟩ := hot
  have xlt : x1 ≠ s.heap.objs.size := Nat.ne_of_lt (Heap.lt_size xg)
  unfold unpackItems
  refine wpAny_bind ?_
  · unfold notIterableAtAll
    refine wpAny_bind (wpAny_specialOf ht.typeIs slot_tuple_iter.lookup ?_)
    refine wpAny_pure ?_
    simp only [Bool.false_eq_true, if_false]
    refine wpAny_bind (wpAny_holding (iter_tuple ht ?_))
    refine wpAny_bind (wpAny_holding (draw_tuple apart items.size 0 _ _ ⟨_, Heap.get?_push_size _ rfl, rfl, rfl⟩ (ht.push _) (by omega) fun h1 hit1 sb1 => ?_))
    have whole : List.take items.size (List.drop 0 items.toList) = items.toList := by
      rw [List.drop_zero]; exact List.take_of_length_le (by simp)
    rw [whole]
    rw [if_neg (by simp)]
    have ht1 : IsTup h1 t items := (ht.push _).extBut sb1.extBut apart
    have x1h : h1.get? x1 = some xo := sb1.extBut x1 xo xlt (Heap.get?_push_of_some _ xg)
    refine wpAny_bind (wpAny_holding (tupEndHot (x1 := x1) ⟨hh, xo, xv, x1h, xd, xc⟩ xlt hit1 ht1 (by simp) fun h2 eb2 => ?_))
    simp only [Option.isSome_none, Bool.false_eq_true, if_false]
    refine wpAny_pure (hQ h2 fun b o hb e => eb2 b o hb (sb1.extBut b o hb (Heap.get?_push_of_some _ e)))
end
theorem pg_tupH {X : Cx} {es : List Expr} {k n : Nat} {pos : Pos} {t : TGs} (hc : HotC X) (h : PGs X es t)
    (hn : (assignEach es X.env).length = n) (hst : (assignEach es X.env).findIdx? (·.1) = none) : PG X (.Tuple es k pos) (gTup X.K n t) := by
  refine ⟨fun pins s τ H v u Q I r hw => ?_⟩
  obtain ⟨a, xs, e1, hq, hl, hw⟩ := hw
  subst e1
  cases r
  obtain ⟨its, rv, ht, hz⟩ := I.tuple hq
  obtain ⟨x1, hot⟩ := hc.at I
  have hsz : (assignEach es X.env).length = its.toArray.size := by simp [hn, ← hl, rv.length]
  rw [assign_Tuple]
  refine wpAny_bind (wpAny_standAt ?_)
  unfold unpack
  rw [hsz, hst]
  refine wpAny_bind (wpAny_holding (itemsTupHot (x1 := x1) hot ht fun h' hx => ?_))
  have I1 : Inv X pins τ H { s with heap := h' } := I.kept (t' := s.toks) fun b o e => hx b o (Nat.ne_of_lt (Heap.lt_size e)) e
  exact h.run pins _ τ H xs _ Q I1 (by simpa using rv) hw
/-! ### zip of two lists -/
def iZL (K : PySem.W.Frag) (ta : TA) : TI := fun τ H R => ta τ H fun vs H1 => ∃ a b xs ys, vs = [.ref a, .ref b] ∧ SqL K H1 a xs ∧ SqL K H1 b ys ∧ R (Itz2 K (.l a xs) (.l b ys)) H1
theorem pi_zipH {X : Cx} {e e2 : Expr} {p pos tpos : Pos} {elts : List Expr} {kk : Nat} {ta : TA} (hg : Gl X "zip") (hm : X.mg "zip" = none) (ha : PA X [e, e2] ta)
    (hs : starEach [e, e2] X.env = (false, eval e X.env) :: starEach [e2] X.env) (hpl : (backTo pos (starEach [e2] X.env)).any (·.1) = false) :
    PIH X (.Tuple elts kk tpos) (.Call (.Name "zip" p) [e, e2] [] pos) (iZL X.K ta) := by
  refine ⟨fun pins s τ H R I h => ?_⟩
  refine Call_ (ld_blt I hg hm PyProof.Rows.boot_zip (PyProof.Rows.callWith_type1 (thn (ha.run pos pins s τ H _ I h) fun us s1 ⟨vs, H1, I1, r1, q1⟩ => ?_) hs hpl))
  obtain ⟨a, b, xs, ys, ex, oa, ob, q⟩ := q1
  subst ex
  obtain ⟨u1, u2, rfl, ra, rb⟩ := Vals.two r1
  obtain ⟨oA, BA, ba, bha, la, ita⟩ := Src.begins (src := .l a xs) I1 oa ra
  obtain ⟨oB, BB, bb, bhb, lb, itb⟩ := Src.begins (src := .l b ys) I1 ob rb
  refine zip_begins2 ba bb bha bhb fun h' hz hTI hTO h1 h2 hsz hk => wpAny_pyIter_zip hz ?_
  have I2 : Inv X pins τ H1 { s1 with heap := h' } := I1.kept (t' := s1.toks) hk
  refine ⟨s1.heap.objs.size + 4, [s1.heap.objs.size + 4, s1.heap.objs.size + 2, s1.heap.objs.size + 3, s1.heap.objs.size, s1.heap.objs.size + 1], _, _, H1, rfl, I2, turn_zipH (la a (by simp [Src.ads])) (lb b (by simp [Src.ads])), ⟨hz, hTI, ⟨_, _, hTO⟩, ita _ _ h1, itb _ _ h2⟩, fun c hcm => ?_, q⟩
  have e' : c = s1.heap.objs.size + 4 ∨ c = s1.heap.objs.size + 2 ∨ c = s1.heap.objs.size + 3 ∨ c = s1.heap.objs.size ∨ c = s1.heap.objs.size + 1 := by simpa using hcm
  have hle : s1.heap.objs.size ≤ c := by
    rcases e' with z | z | z | z | z
    · rw [z]; exact Nat.le_add_right _ _
    · rw [z]; exact Nat.le_add_right _ _
    · rw [z]; exact Nat.le_add_right _ _
    · rw [z]; exact Nat.le_refl _
    · rw [z]; exact Nat.le_add_right _ _
  exact I1.fpOk hle (I1.hok.fresh hle)
/-! ### the choice -/
def selZ {α : Type} : List α → List Bool → List α
  | p :: ps, b :: bs => if b = true then p :: selZ ps bs else selZ ps bs
  | _, _ => []
theorem selZ_take {α : Type} : ∀ {xs : List α} {bs : List Bool} {i : Nat} {x : α} {b : Bool}, xs[i]? = some x → bs[i]? = some b → selZ (xs.take (i + 1)) (bs.take (i + 1)) = selZ (xs.take i) (bs.take i) ++ (if b = true then [x] else [])
  | [], _, _, _, _, h, _ => by simp at h
  | _ :: _, [], _, _, _, _, h => by simp at h
  | y :: ys, c :: cs, 0, x, b, h1, h2 => by
    simp at h1 h2
    subst h1 h2
    cases c <;> simp [selZ]
  | y :: ys, c :: cs, i + 1, x, b, h1, h2 => by
    have ih := selZ_take (xs := ys) (bs := cs) (i := i) (x := x) (b := b) (by simpa using h1) (by simpa using h2)
    simp only [List.take_succ_cons, selZ] at ih ⊢
    cases c <;> simp [ih]
theorem selZ_len {α : Type} : ∀ (xs : List α) (bs : List Bool), (selZ xs bs).length ≤ xs.length
  | [], bs => by cases bs <;> simp [selZ]
  | x :: xs, [] => by simp [selZ]
  | x :: xs, b :: bs => by
    have := selZ_len xs bs
    cases b <;> simp [selZ] <;> omega
theorem RepL.sel {g : Mg} {H : Hp} {e : List Addr} : ∀ {ps : List P} {vs : List V} (bs : List Bool), RepL g H e ps vs → RepL g H e (selZ ps bs) (selZ vs bs)
  | [], vs, bs, h => by rw [h.nil_inv]; cases bs <;> exact RepL.nil
  | p :: ps, vs, [], h => by
    obtain ⟨v, r, rfl, h1, h2⟩ := h.cons_inv
    exact RepL.nil
  | p :: ps, vs, b :: bs, h => by
    obtain ⟨v, r, rfl, h1, h2⟩ := h.cons_inv
    have := h2.sel bs
    cases b with
    | true => exact RepL.cons h1 this
    | false => exact this
def eSel (i j : Nat) (fs : EvA) : EvD := fun σ M => (fs σ M).bind fun ds M1 => match ds with
  | [.p (.lst ps), d] => (match d.get M1 with
    | some (.lst qs) => (match blsOf qs with
      | some bs => if ps.length = bs.length ∧ ps.length ≤ lim ∧ i < σ.length ∧ j < σ.length ∧ i ≠ j then .ok (.nw (selZ ps bs)) M1 else .no
      | none => .no)
    | _ => .no)
  | _ => .no
theorem sel_of {g : Mg} {W : WX} {i j : Nat} {fs : EvA} {τ : L2.St} {H : Hp} {Q : VK} (h : tE g W (eSel i j fs) τ H Q) :
    tLc (iZL g.K (tAr g W fs)) (gTup g.K 2 (gCons (gName i) (gCons (gName j) gNil))) (fun τ H Q => tVar j τ H fun x H' => ∃ k, TruV g.K x H' k ∧ Q k H') (tVar i) [i, j] τ H Q := by
  obtain ⟨σ, M, mu, s, st, h⟩ := h
  refine ⟨σ, M, mu, s, st, (PostA.bind h).mono fun vs H1 ⟨mu1, ds, M1, l1, st1, r1, h1⟩ => ?_⟩
  try dsimp only at h1
  split at h1
  · rename_i ps d
    split at h1
    · rename_i qs hd
      split at h1
      · rename_i bs hb
        split at h1
        · rename_i hc
          obtain ⟨hl, hlim, hi, hj, hij⟩ := hc
          obtain ⟨v1, r, rfl, k1, v2, r', e2, k2, k3⟩ := r1
          subst e2
          rw [show r' = [] from k3]
          have k1 : Rep g H1 mu1 (.lst ps) v1 := k1
          unfold Rep at k1
          obtain ⟨a, xs, rfl, ha, hxs, rxs⟩ := k1
          obtain ⟨b, ys, rfl, hys, rys⟩ := rd_lst (k2.get st1 hd)
          have eys := bls_rep hb rys
          have lx : xs.length = ps.length := rxs.length
          have ly : ys.length = xs.length := by rw [eys, List.length_map, lx, hl]
          refine ⟨a, b, xs, ys, rfl, .of hxs, .of hys, fun D hD => ?_⟩
          have ne : ∀ c u, H1 c = some u → c ≠ D := fun c u e => ne_of_none e hD
          refine ⟨fun k m H' => m = xs.length - k ∧ k ≤ xs.length ∧ (∀ c u, H1 c = some u → H' c = some u) ∧ H' D = some (.lst (selZ (xs.take k) (bs.take k))), ⟨xs.length, by simp, Nat.zero_le _, fun c u e => by rw [upd_ne (ne c u e)]; exact e, by rw [List.take_zero, List.take_zero, upd_same]; rfl⟩, ?_⟩
          rintro k m H' ⟨rfl, hk, keep, hD'⟩
          by_cases hlt : k < xs.length
          · obtain ⟨x, hx⟩ : ∃ x, xs[k]? = some x := ⟨xs[k], List.getElem?_eq_getElem hlt⟩
            obtain ⟨bb, hbb⟩ : ∃ x, bs[k]? = some x := ⟨bs[k]'(by omega), List.getElem?_eq_getElem (by omega)⟩
            have hy : ys[k]? = some (.bl bb) := by rw [eys, List.getElem?_map, hbb]; rfl
            refine .inr ⟨⟨.of (keep _ _ hxs), .of (keep _ _ hys), hlt, by show k < ys.length; omega⟩, fun H' => (∀ c u, H1 c = some u → H' c = some u) ∧ H' D = some (.lst (selZ (xs.take (k + 1)) (bs.take (k + 1)))), fun H2 h2 => ⟨xs.length - (k + 1), by omega, rfl, hlt, h2.1, h2.2⟩, ?_⟩
            rintro z H2 ⟨T, y1, y2, rfl, hT, rfl, f1, f2⟩
            have f1 : xs[k]? = some y1 := f1
            have f2 : ys[k]? = some y2 := f2
            rw [hx] at f1
            rw [hy] at f2
            cases f1
            cases f2
            have neT : ∀ c u, H' c = some u → c ≠ T := fun c u e => ne_of_none e hT
            have kT : ∀ c u, H' c = some u → upd H' T (.tup [x, .bl bb]) c = some u := fun c u e => by rw [upd_ne (neT c u e)]; exact e
            refine ⟨T, [x, .bl bb], rfl, .of upd_same, rfl, x, [.bl bb], rfl, .bl bb, [], rfl, rfl, ?_⟩
            have wl : (wipe τ [i, j]).length = σ.length := by rw [wipe_length, s.len]
            refine ⟨?_, .bl bb, ?_, bb, rfl, ?_⟩
            · rw [wipe_set (by simp), wipe_set (by simp), wipe_wipe]
            · exact List.getElem?_set_self (by rw [List.length_set, wl]; exact hj)
            · have e3 := selZ_take hx hbb
              cases bb with
              | true =>
                refine iteT ⟨x, ?_, selZ (xs.take k) (bs.take k), kT _ _ hD', ?_, ?_, ?_⟩
                · rw [List.getElem?_set_ne (fun z => hij z.symm)]
                  exact List.getElem?_set_self (by rw [wl]; exact hi)
                · refine lim_lt ?_
                  have h1 := selZ_len (xs.take k) (bs.take k)
                  rw [List.length_take] at h1
                  omega
                · intro c u e
                  rw [upd_ne (ne c u e)]
                  exact kT _ _ (keep c u e)
                · rw [upd_same, e3]; rfl
              | false =>
                refine iteF ⟨fun c u e => kT _ _ (keep c u e), ?_⟩
                rw [e3, kT _ _ hD']
                simp
          · have hk2 : k = xs.length := by omega
            subst hk2
            refine .inl ⟨⟨.of (keep _ _ hxs), .of (keep _ _ hys), by show xs.length = min xs.length ys.length; omega⟩, ?_⟩
            have l : Le H1 mu1 H' mu1 := ⟨List.prefix_refl _, fun c u _ _ e => keep c u e, fun _ z => .inl z, le_back fun c u _ e => keep c u e⟩
            have lp := le_push l (nt_none hD)
            have sub : ∀ c, c ∈ mu1 → c ∈ mu1 ++ [D] := fun c z => List.mem_append_left _ z
            refine h1 (.ref D) H' mu1 l ⟨D, _, rfl, nt_none hD, st1.fresh (nt_none hD), hD', ?_, ?_⟩
            · rw [List.take_length, show bs.take xs.length = bs by rw [lx, hl, List.take_length]]
              exact (rxs.mono lp).sel bs
            · refine ⟨LamX.Tabs.ext st1.tab keep, st1.len, st1.nd, sub, fun n mo q => ?_⟩
              obtain ⟨c, c1, c2⟩ := st1.obj n mo q
              refine ⟨c, c1, ?_⟩
              cases mo with
              | lst ps' =>
                obtain ⟨vs', d1, d2⟩ := c2
                exact ⟨vs', keep _ _ d1, d2.mono lp⟩
              | ins cc fs' =>
                obtain ⟨C, dx, vs', d0, d1, d2⟩ := c2
                exact ⟨C, dx, vs', d0, keep _ _ d1, d2.mono lp⟩
        · exact h1.elim
      · exact h1.elim
    · exact h1.elim
  · exact h1.elim
end Ev

set_option Elab.async false
set_option linter.all false
set_option maxRecDepth 100000
set_option maxHeartbeats 4000000
/-! Core20: a def that is given the error that is handled: from its text to the combinators. -/
namespace Ev
open PySem PySem.Spec PyProof.Rows L2 L2H HotX
/-- isinstance(e, c), e the error that is handled, of the class D -/
theorem call_isP {X : Cx} {p : Addr × Obj} {D : Addr} (hp : p ∈ X.pn) (C : ExcC X.K D) (hz : Zc (.ref D) none p.2) (hf : ∃ vs, p.2.data = .fields vs) : CallR X (.builtin "isinstance") (rIsE X.K D p.1) := by
  intro pins s τ H xs us Q I r h
  obtain ⟨c, cv, b, rfl, hcv, e, q⟩ := h
  obtain ⟨u1, u2, rfl, r1, r2⟩ := Vals.two r
  cases r1
  have ec := hcv _ r2
  subst ec
  obtain ⟨at_, _⟩ := I.pin p (List.mem_append_left _ hp)
  obtain ⟨vs, hv⟩ := hf
  have J : PySem.W.InstAt s.heap p.1 p.2 D none := by
    obtain ⟨pa, ⟨oc, od, oda, osl⟩⟩ := p
    obtain ⟨h1, h2⟩ := hz
    dsimp only at h1 h2 hv at_
    subst h1 h2 hv
    exact ⟨at_, rfl, rfl, trivial⟩
  exact PySem.W.kia_one (PySem.W.handS_kitx_exc C.hg C.hk C.hs C.hd C.ha C.hn C.ht C.hm) I.kIn J e (fun z => nomatch z) fun tk => ⟨.bl b, H, I.kept (t' := tk) fun _ _ z => z, rfl, q⟩
/-- what the name c stands for, asked of instances of D -/
def TstOk (X : Cx) (D : Addr) (c : Str) (b : Bool) : Prop :=
  (∃ C', X.mg c = some (.ref C') ∧ PySem.W.kitOne X.K (.ref D) (.ref C') = some b) ∨ ∃ T, X.mg c = none ∧ bootBuiltins c = some (.type T) ∧ PySem.W.kitOne X.K (.ref D) (.type T) = some b
def eIsE (i : Nat) (a0 : Addr) (b : Bool) : EvD := fun σ M => match σ[i]? with
  | some (some (.p (.adr a))) => if a = a0 then .ok (.p (.bl b)) M else .no
  | _ => .no
structure Hm where
  N : List Str
  sc : Scope
  mu : List Str
  a0 : Addr
  tst : Str → Option Bool
structure HCtx (X : Cx) (p : Addr × Obj) (D : Addr) (Γ : Hm) : Prop where
  N : X.N = Γ.N
  nd : Γ.N.Nodup
  sc : X.env.scope = Γ.sc
  kind : Γ.sc.kind = .function
  hot : Hot1 X.A p
  pn : p ∈ X.pn
  a0 : p.1 = Γ.a0
  exc : ExcC X.K D
  z : Zc (.ref D) none p.2
  f : ∃ vs, p.2.data = .fields vs
  zip : X.mg "zip" = none
  isi : X.mg "isinstance" = none
  tst : ∀ c b, Γ.tst c = some b → TstOk X D c b
section
variable {X : Cx} {p : Addr × Obj} {D : Addr} {Γ : Hm}
theorem hVis (C : HCtx X p D Γ) {x : Str} (h : isVis Γ.sc x = true) : Vis X.env.scope x := by
  unfold isVis at h
  rw [C.sc]
  split at h
  · exact .inl (by assumption)
  · exact .inr (.inl (by assumption))
  · exact .inr (.inr (by assumption))
  · cases h
theorem hGl (C : HCtx X p D Γ) {x : Str} (h : isGl Γ.sc x = true) : Gl X x := by
  unfold isGl at h
  split at h
  · rename_i e
    show X.env.scope.names.lookup x = some .globalImplicit
    rw [C.sc]; exact e
  · cases h
theorem hLcl (C : HCtx X p D Γ) {x : Str} (h : isLcl Γ.sc x = true) : X.env.scope.names.lookup x = some .local := by
  unfold isLcl at h
  rw [C.sc]
  split at h
  · assumption
  · cases h
theorem pv_isE (C : HCtx X p D Γ) {y c : Str} {i : Nat} {b : Bool} {p1 p2 p3 pos : Pos} (h1 : isGl Γ.sc "isinstance" = true) (hy : okName y = true) (hv : isVis Γ.sc y = true) (hi : idx y Γ.N = some i) (hc : okName c = true) (hg : isGl Γ.sc c = true) (ht : Γ.tst c = some b) :
    PEv X (.Call (.Name "isinstance" p1) [.Name y p2, .Name c p3] [] pos) (eIsE i Γ.a0 b) := fun W tk => by
  have key : ∀ (v : V) (cv : Value), (∀ u, RelV v u → u = cv) → PySem.W.kitOne X.K (.ref D) cv = some b → PE X (.Name c p3) (tC v) → PE X (.Call (.Name "isinstance" p1) [.Name y p2, .Name c p3] [] pos) (tE X.g W (eIsE i Γ.a0 b)) := by
    intro v cv hv1 hk pc
    have ha : PA X [.Name y p2, .Name c p3] (tCons (tVar i) (tCons (tC v) tNil)) := pa_cons (pe_var (by rw [C.N]; exact idx_ok hi) (hVis C hv) (okName_1 hy) (okName_2 hy)) (pa_cons pc pa_nil) rfl
    refine PE.imp (pe_callB (call_isP C.pn C.exc C.z C.f) (hGl C h1) C.isi (by decide +kernel) ha (by decide) (by decide) rfl) fun τ H Q ⟨σ, M, mu, s, st, h⟩ => ?_
    unfold eIsE at h
    split at h
    · rename_i a hs
      split at h
      · rename_i ha0
        obtain ⟨w, hw, r⟩ := s.at_ i _ hs
        have r : Rep _ _ _ _ _ := r
        unfold Rep at r
        subst r
        refine ⟨_, hw, v, cv, b, ?_, hv1, hk, h (.bl b) H mu (Le.refl _ _) (post_bl st)⟩
        rw [ha0, ← C.a0]
      · exact h.elim
    · exact h.elim
  rcases C.tst c b ht with ⟨C', m, k⟩ | ⟨T, m, bt, k⟩
  · exact key (.ref C') (.ref C') (fun u r => by cases r; rfl) k (pe_glob (hGl C hg) m rfl (okName_1 hc))
  · exact key (.ty T) (.type T) (fun u r => by cases r; rfl) k (pe_bltn (hGl C hg) m bt rfl (okName_3 hc) (okName_1 hc))
def hA (c : Expr → Option EvD) : List Expr → Option EvA
  | [] => some aNil
  | e :: es => (match c e, hA c es, noStar e with
    | some f, some r, true => some (aCons f r)
    | _, _, _ => none)
theorem hA_ok {c : Expr → Option EvD} (S : ∀ e f, c e = some f → PEv X e f) : ∀ {es : List Expr} {f : EvA}, hA c es = some f → PAv X es f
  | [], f, h => by cases h; exact pav_nil
  | e :: es, f, h => by
    have h : (match c e, hA c es, noStar e with
      | some f, some r, true => some (aCons f r)
      | _, _, _ => none) = some f := h
    split at h
    · rename_i h1 h2 h3
      cases h
      exact pav_cons (S _ _ h1) (hA_ok S h2) (star_of h3)
    · cases h
def hMt (c : Expr → Option EvD) (o : Expr) (name : Str) (l1 l2 : Nat) : List Expr → Option EvD
  | [] => none
  | e :: es => if (e :: es).all noStar = true ∧ decide ((e :: es).length < 30) = true ∧ isCall o = false ∧ (l1 == l2) = true ∧ decide (name = "index") = false then (match c o, hA c (e :: es) with
    | some fo, some fs => mtO false name fo fs
    | _, _ => none) else none
def stH (c : Expr → Option EvD) (Γ : Hm) : Expr → Option EvD
  | .Constant v _ _ => cConst v
  | .Name x _ => if okName x = true ∧ isVis Γ.sc x = true then (match idx x Γ.N with
    | some i => some (eVar i)
    | none => none) else none
  | .List es _ => (match hA c es with
    | some fs => some (eLst fs)
    | none => none)
  | .BinOp a .Add b _ => (match c a, c b with
    | some fa, some fb => some (eBin oAdd fa fb)
    | _, _ => none)
  | .Call (.Name x _) [.Name y _, .Name k _] [] _ => if x = "isinstance" ∧ isGl Γ.sc x = true ∧ okName y = true ∧ isVis Γ.sc y = true ∧ okName k = true ∧ isGl Γ.sc k = true then (match idx y Γ.N, Γ.tst k with
    | some i, some b => some (eIsE i Γ.a0 b)
    | _, _ => none) else none
  | .Call (.Attribute o name apos) args [] pos => hMt c o name apos.endLine pos.line args
  | .ListComp (.Name x _) [⟨.Tuple [.Name x1 _, .Name y1 _] _ _, .Call (.Name z _) [e1, e2] [] _, [.Name y2 _], 0⟩] scope _ =>
    (match idx x Γ.N, idx y1 Γ.N, hA c [e1, e2] with
    | some i, some j, some fs => if x1 = x ∧ y2 = y1 ∧ z = "zip" ∧ isGl Γ.sc z = true ∧ noStar e1 = true ∧ noStar e2 = true ∧ blkC Γ.N Γ.sc scope (ownOf Γ.N scope.names) = true ∧ (ownOf Γ.N scope.names).map (·.2) = [i, j] ∧ okName x = true ∧ okName y1 = true ∧
        isLcl (relS scope Γ.sc) x = true ∧ isLcl (relS scope Γ.sc) y1 = true then some (eSel i j fs) else none
    | _, _, _ => none)
  | _ => none
def cH : Nat → Hm → Expr → Option EvD
  | 0, _ => fun _ => none
  | n + 1, Γ => stH (cH n Γ) Γ
theorem mtH {o e : Expr} {es : List Expr} {fa f : EvD} {fs : EvA} {apos pos : Pos} {name : Str} (hni : decide (name = "index") = false) (h : mtO false name fa fs = some f) (ho : PEv X o fa) (ha : PAv X (e :: es) fs) (hs : (e :: es).all noStar = true) (hl : decide ((e :: es).length < 30) = true) (hc : isCall o = false) (hline : (apos.endLine == pos.line) = true) :
    PEv X (.Call (.Attribute o name apos) (e :: es) [] pos) f := by
  have hf := few_of (env := X.env) (pos := pos) hs hl
  rw [List.all_cons, Bool.and_eq_true] at hs
  have h1 := star_of (es := es) (env := X.env) hs.1
  have h2 := back_none (env := X.env) (pos := pos) hs.2
  unfold mtO at h
  split at h
  · rename_i ex; subst ex; cases h
    exact pv_mt F.plainAttrs_str F.slot_str_join rfl m_join ho ha (base_of hc) hf hline h1 h2
  split at h
  · rename_i ex; subst ex; cases h
    exact pv_mt F.plainAttrs_str F.slot_str_split rfl m_split ho ha (base_of hc) hf hline h1 h2
  split at h
  · rename_i ex; subst ex; cases h
    exact pv_mt F.plainAttrs_list F.slot_list_count rfl m_count ho ha (base_of hc) hf hline h1 h2
  split at h
  · rename_i ex; subst ex; cases h
    exact pv_lm F.plainAttrs_list F.slot_list_append rfl mt_append lm_app ho ha (base_of hc) hf hline h1 h2
  split at h
  · rename_i ex; subst ex; cases h
    exact pv_lm F.plainAttrs_list F.slot_list_extend rfl mt_extend lm_ext ho ha (base_of hc) hf hline h1 h2
  split at h
  · rename_i ex; exact absurd ex (of_decide_eq_false hni)
  cases h
theorem stH_ok {c : Expr → Option EvD} (C : HCtx X p D Γ) (S : ∀ e f, c e = some f → PEv X e f) {e : Expr} {f : EvD} (h : stH c Γ e = some f) : PEv X e f := by
  unfold stH at h
  split at h
  · exact cConst_ok h
  · split at h
    · rename_i hh
      split at h
      · rename_i i hi
        cases h
        exact pv_var (by rw [C.N]; exact idx_ok hi) (hVis C hh.2) (okName_1 hh.1) (okName_2 hh.1)
      · cases h
    · cases h
  · split at h
    · rename_i k1; cases h; exact pv_lst (hA_ok S k1)
    · cases h
  · split at h
    · rename_i k1 k2; cases h; exact pv_bin o_add (S _ _ k1) (S _ _ k2)
    · cases h
  · split at h
    · rename_i hh
      obtain ⟨h1, h2, h3, h4, h5, h6⟩ := hh
      subst h1
      split at h
      · rename_i k1 k2
        cases h
        exact pv_isE C h2 h3 h4 k1 h5 h6 k2
      · cases h
    · cases h
  · unfold hMt at h
    split at h
    · cases h
    · split at h
      · rename_i hh
        obtain ⟨h1, h2, h3, h4, h5⟩ := hh
        split at h
        · rename_i k1 k2
          exact mtH h5 h (S _ _ k1) (hA_ok S k2) h1 h2 h3 h4
        · cases h
      · cases h
  · rename_i x _ x1 _ y1 _ _ _ z _ e1 e2 _ y2 _ scope _
    split at h
    · rename_i i j fs ki kj ka
      split at h
      · rename_i hh
        obtain ⟨q1, q2, q3, q4, q5, q6, q7, q8, q9, q10, q11, q12⟩ := hh
        subst q1 q2 q3
        cases h
        intro W tk
        have ok : BlkOk X.N X.env.scope scope (ownOf Γ.N scope.names) := by rw [C.N, C.sc]; exact blkOk_by q7
        have hotX : HotC X := ⟨p, C.hot, C.pn⟩
        have ha : PA X [e1, e2] (tAr X.g W fs) := hA_ok S ka W tk
        have e8 : (ownOf Γ.N scope.names).map (·.2) = [i, j] := q8
        have lx : ∀ s H Ca cl fp, (blkP X s H scope (compEnvC scope cl Ca X.env) fp).env.scope.names.lookup x1 = some .local := fun s H Ca cl fp => by
          show (relS scope X.env.scope).names.lookup x1 = _
          rw [C.sc]
          unfold isLcl at q11
          split at q11
          · assumption
          · cases q11
        have ly : ∀ s H Ca cl fp, (blkP X s H scope (compEnvC scope cl Ca X.env) fp).env.scope.names.lookup y2 = some .local := fun s H Ca cl fp => by
          show (relS scope X.env.scope).names.lookup y2 = _
          rw [C.sc]
          unfold isLcl at q12
          split at q12
          · assumption
          · cases q12
        have ix : X.N[i]? = some x1 := by rw [C.N]; exact idx_ok ki
        have iy : X.N[j]? = some y2 := by rw [C.N]; exact idx_ok kj
        have ndX : X.N.Nodup := by rw [C.N]; exact C.nd
        refine PE.imp (t := tLc (iZL X.K (tAr X.g W fs)) (gTup X.K 2 (gCons (gName i) (gCons (gName j) gNil))) (fun τ H Q => tVar j τ H fun x H' => ∃ k, TruV X.K x H' k ∧ Q k H') (tVar i) [i, j]) ?_ fun τ H Q h => sel_of h
        rw [← e8]
        exact pe_lcH (X := X) (own := ownOf Γ.N scope.names) (g := gTup X.K 2 (gCons (gName i) (gCons (gName j) gNil))) (tt := fun τ H Q => tVar j τ H fun x H' => ∃ k, TruV X.K x H' k ∧ Q k H') (te := tVar i) hotX ndX
          (pi_zipH (hGl C q4) C.zip ha (star_of q5) (back_none (by rw [List.all_cons, q6]; rfl))) ok
          (fun s H Ca cl fp => pg_tupH (n := 2) hotX (pgs_cons (pg_name ndX ix (.inl (lx s H Ca cl fp)) (.inr (lx s H Ca cl fp))) (pgs_cons (pg_name ndX iy (.inl (ly s H Ca cl fp)) (.inr (ly s H Ca cl fp))) pgs_nil)) rfl rfl)
          (fun s H Ca cl fp => pts_one (pt_truth (pe_var iy (.inl (ly s H Ca cl fp)) (okName_1 q10) (okName_2 q10)) fun wh => rfl))
          (fun s H Ca cl fp => pe_var ix (.inl (lx s H Ca cl fp)) (okName_1 q9) (okName_2 q9)) (fun x => rfl)
      · cases h
    · cases h
  · cases h
end
end Ev

set_option Elab.async false
set_option linter.all false
set_option maxRecDepth 100000
set_option maxHeartbeats 4000000
/-! Core21: try .. except X as e: return f(e). -/
namespace Ev
open PySem PySem.Spec PyProof.Rows L2 L2H HotX
/-- what a def's body owes -/
theorem fnB_post {g : Mg} {H : Hp} {mu : List Addr} {M : Sto} {N : List Str} {b : EvS} {ds : List D} {Q : VK} {E : XK} {W : WX} (hm : mu.length = M.length) (hW : ∀ c d τ H, E c d H → W c d τ H)
    (h : PostO g H mu [] (fun c d _ H => E c d H) (fnB N.length b ds M) Q) : PostS g H mu W (b (ds.map some ++ List.replicate (N.length - ds.length) none) M) { nx := fun _ H' => Q .non H', rt := Q } := by
  unfold fnB at h
  cases e : b (ds.map some ++ List.replicate (N.length - ds.length) none) M with
  | ok fl M' =>
    rw [e] at h
    cases fl with
    | nx σ' => exact fun τ' H' mu' l s st' => leave_rt (d := .p .non) hm l ⟨st', by show Rep _ _ _ _ _; unfold Rep; rfl⟩ h
    | rt d => exact fun v H' mu' l p => leave_rt hm l p h
    | bk _ => exact h.elim
    | ct _ => exact h.elim
  | er c n σ' M' =>
    rw [e] at h
    intro cls dd τ' H' mu' l s st' x
    refine hW _ _ _ _ (h cls dd H' mu l.cut ?_ x)
    rw [← hm]
    exact st'.cut l
  | no => rw [e] at h; exact h.elim
/-! ### statements of the def -/
def hS1 (c : Expr → Option EvD) (Γ : Hm) : Stmt → Option EvS
  | .Assign [.Name x _] e _ => if isLcl Γ.sc x = true ∧ notComp e = true then (match idx x Γ.N, c e with
    | some i, some f => some (if Γ.mu.contains x = true then sSetM i f else sSet i f)
    | _, _ => none) else none
  | .Expr e _ => if notComp e = true then (match c e with
    | some f => some (sExpr f)
    | none => none) else none
  | .Return (some e) _ => (match c e with
    | some f => some (sRet f)
    | none => none)
  | _ => none
def hSs (c : Expr → Option EvD) (Γ : Hm) : List Stmt → Option EvS
  | [] => some sNil
  | s :: r => (match hS1 c Γ s, hSs c Γ r with
    | some f, some k => some (sSeq f k)
    | _, _ => none)
section
variable {X : Cx} {p : Addr × Obj} {D : Addr} {Γ : Hm}
theorem cH_ok (C : HCtx X p D Γ) : ∀ (n : Nat) (e : Expr) (f : EvD), cH n Γ e = some f → PEv X e f
  | 0, _, _, h => by cases h
  | n + 1, e, f, h => stH_ok C (cH_ok C n) h
theorem hS1_ok {c : Expr → Option EvD} (C : HCtx X p D Γ) (S : ∀ e f, c e = some f → PEv X e f) {s : Stmt} {f : EvS} (h : hS1 c Γ s = some f) : PSv X s f := by
  unfold hS1 at h
  split at h
  · split at h
    · rename_i hh
      obtain ⟨h1, h2⟩ := hh
      split at h
      · rename_i k1 k2
        have l := hLcl C h1
        have nd : X.N.Nodup := by rw [C.N]; exact C.nd
        split at h
        · cases h; exact psv_setM nd (by rw [C.N]; exact idx_ok k1) (.inl l) (S _ _ k2) (sw_no h2) (.inr l)
        · cases h; exact psv_set nd (by rw [C.N]; exact idx_ok k1) (.inl l) (S _ _ k2) (sw_no h2) (.inr l)
      · cases h
    · cases h
  · split at h
    · rename_i hn
      split at h
      · rename_i k1; cases h; exact psv_expr (S _ _ k1) (sw_no hn)
      · cases h
    · cases h
  · split at h
    · rename_i k1; cases h; exact psv_ret (S _ _ k1)
    · cases h
  · cases h
theorem hSs_ok {c : Expr → Option EvD} (C : HCtx X p D Γ) (S : ∀ e f, c e = some f → PEv X e f) : ∀ {l : List Stmt} {f : EvS}, hSs c Γ l = some f → PSsv X l f
  | [], f, h => by cases h; exact pssv_nil
  | s :: r, f, h => by
    have h : (match hS1 c Γ s, hSs c Γ r with
      | some f, some k => some (sSeq f k)
      | _, _ => none) = some f := h
    split at h
    · rename_i k1 k2; cases h; exact pssv_cons (hS1_ok C S k1) (hSs_ok C S k2)
    · cases h
end
/-! ### the def is called with the error that is handled -/
/-- the classes of errors: the one that is asked -/
def errT : List Str := ["InvalidMachine", "InvalidStanding", "InvalidLine", "InvalidNumber", "InvalidIndex", "InvalidPlace", "InvalidColour", "InvalidWish", "InvalidSeen", "InvalidSign", "InvalidText", "Unlike", "NothingToUndo", "TooMany", "Failed"]
def tstE (c : Str) : Str → Option Bool := fun x => if errT.contains x = true then some (decide (x = c)) else if x = "ValueError" then some true else none
/-- what is known of an error's class -/
structure ErrC (K : PySem.W.Frag) (mg : Str → Option Value) (c : Str) (D : Addr) : Prop where
  at_ : mg c = some (.ref D)
  exc : ExcC K D
  base : ∃ B, mg "RibbonError" = some (.ref B) ∧ PySem.W.exmOne K (.ref D) (.ref B) = some true
  tst : ∀ x ∈ errT, ∃ C', mg x = some (.ref C') ∧ PySem.W.kitOne K (.ref D) (.ref C') = some (decide (x = c))
  ve : mg "ValueError" = none ∧ PySem.W.kitOne K (.ref D) (.type "ValueError") = some true
/-- the def that tells an error's words: b its combinators, told of an error's address and class -/
structure NamesG (P : Program) (w : World) (K : PySem.W.Frag) (mg : Str → Option Value) (base : Heap) (f : Addr) (wd : Str → Option Str) : Prop where
  at_ : mg "_law_names" = some (.ref f)
  keep : PySem.W.keepIn K (.ref f) = true
  run : ∀ (c z : Str) (D : Addr), wd c = some z → ErrC K mg c D → ∀ (A : Around) (outer : List Env) (s : Shared) (H : Hp) (p : Addr × Obj) (Q : VK) (E : XK) (M : Sto) (mu : List Addr), RoomH 1 A → Hot1 A p → PinOk outer H s p → Zc (.ref D) none p.2 → (∃ vs, p.2.data = .fields vs) →
    Env0 P w K mg base A outer s H → StoOk ⟨mg, K⟩ H mu mu M → (∀ v H' mu', Le H mu H' mu' → Post ⟨mg, K⟩ H H' mu' M (.p (.str z)) v → Q v H') →
    codeAny (model P w) A (.call (.ref f) ⟨[.ref p.1], []⟩) (CR (L2N.CX P w) outer P w H s Q E) s
theorem names_mk {P : Program} {w : World} {K : PySem.W.Frag} {mg : Str → Option Value} {base : Heap} {params : Arguments} {body : List Stmt} {scope : Scope} {f : Addr} {fd : FuncData} {N : List Str} {mu0 : List Str} {wd : Str → Option Str} {n : Nat} {b : Addr → Str → EvS} {a1 : Str}
    (F : FunD K "_law_names" "_law_names" params body scope [] [] f fd) (gx : mg "_law_names" = some (.ref f)) (S : C8.scC N [a1] scope = true) (hzip : mg "zip" = none) (hisi : mg "isinstance" = none)
    (hb : ∀ (kV doc pm : Value) (an : Option Addr) (cdv ct : Value) (us : List Value), us.length = 1 → bindArgs (PySem.W.fnOf "_law_names" "_law_names" params body scope .none kV doc pm an cdv ct) ⟨us, []⟩ = pure ([a1].zip us))
    (hc : ∀ a0 c, hSs (cH n ⟨N, scope, mu0, a0, tstE c⟩) ⟨N, scope, mu0, a0, tstE c⟩ body = some (b a0 c))
    (hr : ∀ a0 c z M, wd c = some z → fnB N.length (b a0 c) [.p (.adr a0)] M = .ok (.p (.str z)) M) : NamesG P w K mg base f wd := by
  refine ⟨gx, F.kp, fun c z D hz C A outer s H p Q E M mu room hot pin zc hf e0 st q => ?_⟩
  have bnd := FunD.bindsA (ps := [a1]) F hb s [.ref p.1] rfl
  obtain ⟨oc, od, dV, kV, doc, pm, an, cdv, ct, osl, rfl, lk, hcd, _, _⟩ := F.ex
  have Sc := C8.fnScope_by S
  have KX : K.In s.heap := e0.mod.kin.keeps fun b o e => (e0.bs b o e).1
  have lim : s.heap.NoLimit := e0.mod.nolimit.keeps fun b o e => (e0.bs b o e).1
  have kinds : ∀ y ∈ [a1].zip [Value.ref p.1], scope.names.lookup y.1 = some .local ∨ (scope.names.lookup y.1 = some .cell ∧ ((cellsFrom (s.heap.objs.size + 1) scope.names []).lookup y.1).isSome = true) := fun y hy => by
    have hy1 : y.1 ∈ [a1] := (List.of_mem_zip hy).1
    exact (Sc.par _ hy1).imp id fun z => ⟨z, PySem.W.cellsFrom_some _ _ _ (.inl z)⟩
  refine codeAny_call_function room.depth (KX _ _ lk) rfl Sc.co Sc.gen rfl (PySem.W.codeRec_of KX hcd) (bnd _ _ _ _ ?_)
  refine wpAny_newFunctionEnv_cells Sc.kind kinds fun env he s1 x => ?_
  subst he
  refine ⟨lim.keeps x.toInCall.keep, codeAny_func ?_⟩
  have I := inv_startH (CX := L2N.CX P w) (P := P) (w := w) (E := E) (us := [.ref p.1]) (vs := [.ref p.1]) Sc pin e0 rfl (.cons rfl .nil) x
  have HC : HCtx (cxH (L2N.CX P w) P w K mg base N "_law_names" scope f cdv A outer s H E p) p D ⟨N, scope, mu0, p.1, tstE c⟩ :=
    { N := rfl, nd := Sc.nd, sc := rfl, kind := Sc.kind, hot := hot, pn := List.mem_singleton.mpr rfl, a0 := rfl, exc := C.exc, z := zc, f := hf, zip := hzip, isi := hisi,
      tst := fun k bb h => by
        unfold tstE at h
        dsimp only at h
        split at h
        · rename_i hk
          cases h
          exact .inl (C.tst k (by simpa using hk))
        · split at h
          · rename_i hk
            subst hk
            cases h
            exact .inr ⟨"ValueError", C.ve.1, by decide +kernel, C.ve.2⟩
          · cases h }
  have PB := hSs_ok HC (cH_ok HC n) (hc p.1 c) (fun _ _ _ _ => False) (fun u s' xx => by
    obtain ⟨_, _, _, _, _, _, _, _, _, _, _, _, _, _, _, _, z⟩ := xx
    exact z.elim)
  have rd : RepDL ⟨mg, K⟩ H mu [.p (.adr p.1)] [V.ref p.1] := ⟨.ref p.1, [], rfl, by show Rep _ _ _ _ _; unfold Rep; rfl, rfl⟩
  have hq : PostO ⟨mg, K⟩ H mu [] (fun c d _ H => False) (fnB N.length (b p.1 c) [.p (.adr p.1)] M) Q := by
    rw [hr p.1 c z M hz]
    exact fun v H' mu' l pp => q v H' mu' l pp
  have hp := fnB_post (N := N) (E := fun _ _ _ => False) (W := fun _ _ _ _ => False) st.len (fun _ _ _ _ z => z) hq
  refine wpAny_mono (PB.run [] s1 (L2.start N [.ref p.1]) H { nx := fun _ H' => Q .non H', rt := Q } I ⟨_, M, mu, slots_start N rd, st, hp⟩) (fun fl s' hs => ?_) fun e s' hs => hs
  have fin : ∀ {σ' : L2.St} {H' : Hp} {v : V} {u : Value}, Inv (cxH (L2N.CX P w) P w K mg base N "_law_names" scope f cdv A outer s H E p) [] σ' H' s' → RelV v u → Q v H' → CE outer P w H s Q u s' :=
    fun {σ' H' v u} J rv qq => ⟨v, H', J.os, J.bare, J.base, J.hok, rv, qq⟩
  cases fl with
  | ret u =>
    obtain ⟨v, σ', H', J, rv, qq⟩ := hs
    exact fin J rv qq
  | next =>
    obtain ⟨σ', H', J, qq⟩ := hs
    exact fin (v := V.non) (u := Value.none) J rfl qq
  | brk =>
    obtain ⟨_, _, _, qq⟩ := hs
    exact False.elim qq
  | cont =>
    obtain ⟨_, _, _, qq⟩ := hs
    exact False.elim qq
end Ev

set_option Elab.async false
set_option linter.all false
set_option maxRecDepth 100000
set_option maxHeartbeats 4000000
/-! Core22: try .. except RibbonError as e: return _law_names(e). -/
namespace Ev
open PySem PySem.Spec PyProof.Rows L2 L2H HotX
/-- the promise of return _law_names(e) in a suite: a the error, cls its class, i the slot of e -/
def tNm (g : Mg) (wd : Str → Option Str) (i : Nat) (a : Addr) (cls : Value) (d : Option Addr) : TE := fun τ H Q =>
  ∃ c z D M mu, wd c = some z ∧ ErrC g.K g.m c D ∧ cls = .ref D ∧ d = none ∧ (∃ τ0 : L2.St, τ = τ0.set i (some (.ref a))) ∧ StoOk g H mu mu M ∧ ∀ v H' mu', Le H mu H' mu' → Post g H H' mu' M (.p (.str z)) v → Q v H'
section
variable {X : Cx} {f : Addr} {wd : Str → Option Str}
theorem pe_names {a : Addr} {oe : Obj} {cls : Value} {d : Option Addr} {pn : List (Addr × Obj)} {n : Str} {i k : Nat} {q1 q2 pos : Pos} (NG : NamesG X.prog X.w X.K X.mg X.base f wd) (hr : Room k X.A) (hk : 1 ≤ k) (hg : Gl X "_law_names") (hN : X.N[i]? = some n) (hv : Vis X.env.scope n) (hn : okName n = true)
    (zn : L2N.Zn cls d oe) (hf : ∃ vs, oe.data = .fields vs) : PE (X.suite a ((a, oe) :: pn)) (.Call (.Name "_law_names" q1) [.Name n q2] [] pos) (tNm X.g wd i a cls d) := by
  refine ⟨fun pins s τ H Q I h => ?_⟩
  obtain ⟨c, z, D, M, mu, hz, C, rfl, rfl, ⟨τ0, et⟩, st, q⟩ := h
  have ht : τ[i]? = some (some (.ref a)) := by
    have hl : τ.length = X.N.length := I.len
    have hi : i < X.N.length := (List.getElem?_eq_some_iff.mp hN).1
    rw [et, List.length_set] at hl
    rw [et]
    exact List.getElem?_set_self (by rw [hl]; exact hi)
  refine wpAny_Call_Name_kw (ld_glob (X := X.suite a ((a, oe) :: pn)) I hg NG.at_ ?_ (by decide))
  have hv' : Vis (X.suite a ((a, oe) :: pn)).env.scope n := hv
  have ha := pa_cons (X := X.suite a ((a, oe) :: pn)) (es := []) (pe_var (pos := q2) (i := i) hN hv' (okName_1 hn) (okName_2 hn)) pa_nil rfl
  refine PySem.W.callWith_K (h₀ := X.base) I.ok.mod.kin NG.keep (thn (ha.run pos pins s τ H (fun vs H1 => vs = [.ref a] ∧ H1 = H) I ⟨.ref a, ht, rfl, rfl⟩) fun us s1 ⟨vs, H1, I1, r, qq⟩ => ⟨I1.kIn, ?_⟩) rfl rfl
  obtain ⟨e1, e2⟩ := qq
  subst e1
  rw [e2] at I1
  obtain ⟨u, eu, ru⟩ := Vals.one r
  cases ru
  subst eu
  have P1 := I1.pin (a, oe) (List.mem_append_left _ List.mem_cons_self)
  have pin : PinOk (X.suite a ((a, oe) :: pn)).stack H s1 (a, oe) := ⟨P1.1, P1.2.1, fun hm => (List.mem_cons.mp (I1.stkSub a hm)).elim P1.2.2.1 P1.2.2.2.1, P1.2.2.2.2⟩
  obtain ⟨vs, hvs⟩ := hf
  have hot : Hot1 (X.suite a ((a, oe) :: pn)).A (a, oe) := ⟨rfl, vs, hvs, zn.2.2 vs hvs⟩
  have room : RoomH 1 (X.suite a ((a, oe) :: pn)).A := by
    have r1 := hr.dp
    have r2 := hr.un
    exact ⟨by show X.A.depth + 3 * 1 + 5 < _; omega, by show X.A.units + 16 * 1 + 200 < _; omega⟩
  refine wpAny_call (codeAny_mono (NG.run c z D hz C (X.suite a ((a, oe) :: pn)).A (X.suite a ((a, oe) :: pn)).stack s1 H (a, oe) Q (fun _ _ _ => False) M mu room hot pin zn.zc ⟨vs, hvs⟩ I1.env0 st q) fun r s' hq => ?_)
  cases r with
  | error e =>
    obtain ⟨_, _, _, _, _, _, _, _, _, _, _, _, _, z⟩ := hq
  | ok fl =>
    cases fl with
    | ret u => exact I1.after hq
    | next => exact False.elim hq
    | brk => exact False.elim hq
    | cont => exact False.elim hq
theorem psv_tryW {body : List Stmt} {fb : EvS} {n : Str} {i k : Nat} {np q1 q2 q3 q4 pos pos' : Pos} (hs : X.stack = X.env :: X.outer) (hfr : X.env.frame = some X.env.locals) (nd : X.N.Nodup) (hi : X.N[i]? = some n) (hl : X.env.scope.names.lookup n = some .local)
    (NG : NamesG X.prog X.w X.K X.mg X.base f wd) (hE : ∀ c z, wd c = some z → ∃ D, ErrC X.K X.mg c D) (hr : Room k X.A) (hk : 1 ≤ k) (hg : Gl X "_law_names") (hb : Gl X "RibbonError") (hRE : ∃ B, X.mg "RibbonError" = some (.ref B)) (hn : okName n = true)
    (hbody : ∀ (pn : List (Addr × Obj)) (xe : Value → Shared → Prop), PassesOwn (model X.prog X.w) X.A X.env xe → PSsv (X.tr pn xe) body fb) :
    PSv X (.Try body [.ExceptHandler (some (.Name "RibbonError" np)) (some n) [.Return (some (.Call (.Name "_law_names" q1) [.Name n q2] [] q3)) q4] pos'] [] [] pos) (sTryW wd fb) := fun W tk => by
  obtain ⟨B, hB⟩ := hRE
  refine PS.imp (L2N.ps_try_as (c := .ref B) hs hfr nd hi hl ⟨hb, by decide, .inl hB⟩ tk (tb := fun W => tS X.g W fb) (ts := fun a cls d D τ H => tNm X.g wd i a cls d τ H D.rt) (fun W' pn xe tk' po => hbody pn xe po W' tk')
    (fun a oe cls d pn zn hf => pss_one (ps_ret (pe_names NG hr hk hg hi (.inl hl) hn zn hf)))) fun D τ H ⟨σ, M, mu, s, st, h⟩ => ?_
  refine ⟨σ, M, mu, s, st, ?_⟩
  unfold sTryW at h
  cases e : fb σ M with
  | ok fl M1 => rw [e] at h; exact h
  | no => rw [e] at h; exact h
  | er c m σ1 M1 =>
    rw [e] at h
    cases m with
    | some _ => exact h.elim
    | none =>
      dsimp only at h
      cases hz : wd c with
      | none => rw [hz] at h; exact h.elim
      | some z =>
        rw [hz] at h
        intro cls dd τ' H' mu' l s' st' x
        obtain ⟨D1, C1⟩ := hE c z hz
        obtain ⟨C', g1, g2, g3⟩ := x
        have g1 : X.mg c = some (.ref C') := g1
        rw [C1.at_] at g1
        cases g1
        obtain ⟨B', hB', hx⟩ := C1.base
        rw [hB] at hB'
        cases hB'
        refine ⟨true, by rw [g2]; exact hx, fun _ a na => ?_, fun z => by cases z⟩
        exact ⟨c, z, D1, M1, mu', hz, C1, g2, g3, ⟨_, rfl⟩, st', fun v H2 mu2 l2 p2 => h v H2 mu2 (l.trans l2) (p2.back l.back)⟩
end
end Ev

set_option Elab.async false
set_option linter.all false
set_option maxRecDepth 100000
set_option maxHeartbeats 4000000
/-! Core23: _law_word(lambda: e). -/
namespace Ev
open PySem PySem.Spec PyProof.Rows L2 L2H HotX LamX
section
variable {X : Cx} {pins : List (Addr × Obj)} {τ : L2.St} {H : Hp} {s : Shared}
/-- a(), in the def that got the lambda -/
theorem lamAct {Eg : XK} {CXg : CXT} {Ng : List Str} {qg : Str} {sg : Scope} {g f c' : Addr} {cdg pm ctv : Value} {params : Arguments} {body : Expr} {scope : Scope} {k i : Nat} {a : Str} {pn : List (Addr × Obj)} {xe : Value → Shared → Prop} {W : WX} {E : XK} {tb : TE} {p1 p2 : Pos}
    (I : Inv X pins τ H s) (L : LamS X.env.scope scope) (hf : s.heap.get? f = some (PySem.W.kla_obj "<lambda>" (X.env.qual ++ "<lambda>") params body scope (cloFrom X.env.cells scope.names []) pm c' ctv)) (fn : H f = none) (ff : f ∉ frs X.stack)
    (hbind : bindArgs (PySem.W.kla_fn "<lambda>" (X.env.qual ++ "<lambda>") params body scope (cloFrom X.env.cells scope.names []) pm (.ref c') ctv) ⟨[], []⟩ = pure [])
    (tk : L2N.Takes ((cxOf CXg X.prog X.w X.K X.mg X.base Ng qg sg g cdg X.A X.stack s H Eg).tr pn xe) W) (hW : ∀ cls d σ' H', E cls d H' → W cls d σ' H') (hr : Room (k + 1) (X.A.deeper (envOfC qg sg s.heap.objs.size g cdg)))
    (hbody : ∀ (A : Around) (outer : List Env) (s : Shared) (H : Hp), Room k (A.deeper (lamEnv X scope s.heap.objs.size f c')) → PE (lamN X A outer s H E scope f c') body tb)
    (hN : Ng[i]? = some a) (hv : Vis sg a) (hd : (a == ("__debug__" : Str)) = false) (hcd : (a == ("__classdict__" : Str)) = false) :
    PE ((cxOf CXg X.prog X.w X.K X.mg X.base Ng qg sg g cdg X.A X.stack s H Eg).tr pn xe) (.Call (.Name a p1) [] [] p2)
      (fun σZ HZ Q => σZ[i]? = some (some (.ref f)) ∧ HZ c' = some (CodeO c' (X.env.qual ++ "<lambda>")) ∧ tb τ HZ Q) := by
  refine ⟨fun pinsZ sZ σZ HZ Q IZ h => ?_⟩
  obtain ⟨hs, hc, ht⟩ := h
  refine wpAny_Call_Name_kw (thn ((pe_var (pos := p1) (i := i) hN hv hd hcd).run pinsZ sZ σZ HZ (fun v H1 => v = .ref f ∧ H1 = HZ) IZ ⟨.ref f, hs, rfl, rfl⟩) fun u s1 ⟨v, H1, I1, r1, q1⟩ => ?_)
  obtain ⟨ev, eH⟩ := q1
  subst ev
  rw [eH] at I1
  obtain rfl : u = Value.ref f := r1
  have at1 : s1.heap.get? f = some (PySem.W.kla_obj "<lambda>" (X.env.qual ++ "<lambda>") params body scope (cloFrom X.env.cells scope.names []) pm c' ctv) := I1.base.keep f _ hf fn ff (fun z => nomatch (show f ∈ ([] : List Addr) from z))
  refine PySem.W.callWith_F0 ⟨_, _, _, _, at1⟩ ?_
  have un : Un (frs X.stack) [] H HZ s.heap s1.heap := I1.base
  obtain ⟨⟨oc, vs, t, hoc, hdc, hvc⟩, _, _⟩ := I1.hok c' _ hc
  have called : codeAny (model X.prog X.w) (X.A.deeper (envOfC qg sg s.heap.objs.size g cdg)) (.call (.ref f) ⟨[], []⟩) (CR (L2N.CX X.prog X.w) (envOfC qg sg s.heap.objs.size g cdg :: X.stack) X.prog X.w HZ s1 Q E) s1 := by
    refine PySem.W.kla_callFunE hr.depth at1 rfl L.co L.gen rfl ⟨c', oc, vs, t, rfl, hoc, hdc, hvc⟩ ?_
    rw [hbind]
    refine wpAny_pure (wpAny_newFunctionEnv (fun y hy => (L.own y hy).2) (fun y hy => absurd hy (by simp)) (fun h₁ hns hsb => ⟨I1.nolimit.fresh _ hsb, ?_⟩) L.kind)
    show codeAny _ _ (.expr body (lamEnv X scope s1.heap.objs.size f c')) _ _
    have kp : ∀ b o, s1.heap.get? b = some o → h₁.get? b = some o := fun b o e => hsb.extBut b o (Nat.ne_of_lt (Heap.lt_size e)) (Heap.get?_push_of_some _ e)
    have J0 : Inv (lamCx X (X.A.deeper (envOfC qg sg s.heap.objs.size g cdg)) (envOfC qg sg s.heap.objs.size g cdg :: X.stack) s1 HZ E scope f c') [] τ HZ { s1 with heap := h₁, toks := s1.toks + ([] : List (Str × Value)).length } :=
      lam_start2 I L I1.env0 hr.hd un hns kp
    have J := J0.toTry (lamXe X (X.A.deeper (envOfC qg sg s.heap.objs.size g cdg)) (envOfC qg sg s.heap.objs.size g cdg :: X.stack) s1 HZ E scope f c')
    refine PySem.W.kla_codeExpr (wpAny_mono ((hbody _ _ s1 HZ (hr.deeper _)).run [] _ _ HZ Q J ht) (fun v s' hq => ?_) fun e s' hq => hq)
    obtain ⟨w', H', J', rv, q⟩ := hq
    exact ⟨w', H', J'.os, J'.bare, J'.base, J'.hok, rv, q⟩
  have hx := L2N.passes_call tk hW
  refine wpAny_call (codeAny_mono called fun r s' hq => ?_)
  cases r with
  | error e => exact hx pinsZ σZ HZ s1 e s' I1 hq
  | ok fl =>
    cases fl with
    | ret u => exact I1.after hq
    | next => exact False.elim hq
    | brk => exact False.elim hq
    | cont => exact False.elim hq
end
/-- the def that calls what it got -/
def Gives (X : Cx) (Ng : List Str) (x : Str) (sg : Scope) (g : Addr) (cdg : Value) (bg : List Stmt) (a : Str) (q : Str) (TT : (XK → Hp → VK → Prop) → Hp → VK → Prop) : Prop :=
  ∀ (f c' : Addr) (s : Shared) (H : Hp) (Q : VK) (tl : XK → Hp → VK → Prop),
    (∀ (W : WX) (pn : List (Addr × Obj)) (xe : Value → Shared → Prop) (E : XK) (p1 p2 : Pos), L2N.Takes ((cxOf C8.CX0 X.prog X.w X.K X.mg X.base Ng x sg g cdg X.A X.stack s H C8.E0).tr pn xe) W → (∀ cls d σ' H', E cls d H' → W cls d σ' H') →
      PE ((cxOf C8.CX0 X.prog X.w X.K X.mg X.base Ng x sg g cdg X.A X.stack s H C8.E0).tr pn xe) (.Call (.Name a p1) [] [] p2) (fun σZ HZ Q => σZ[0]? = some (some (.ref f)) ∧ HZ c' = some (CodeO c' q) ∧ tl E HZ Q)) →
    Room 2 (X.A.deeper (envOfC x sg s.heap.objs.size g cdg)) → H c' = some (CodeO c' q) → TT tl H Q →
    ∃ t, PSs (cxOf C8.CX0 X.prog X.w X.K X.mg X.base Ng x sg g cdg X.A X.stack s H C8.E0).nox bg t ∧ t { nx := fun _ H' => Q .non H', rt := Q } (L2.start Ng [.ref f]) H
theorem pe_lamcallN {X : Cx} {T : List (Addr × Str)} {TT : (XK → Hp → VK → Prop) → Hp → VK → Prop} {x a : Str} {g c P : Addr} {k : Nat} {pg : Arguments} {bg : List Stmt} {sg : Scope} {dV kV doc pm cdv ct oc : Value} {an od : Option Addr} {osl : Array (Option Value)} {Ng : List Str}
    {params : Arguments} {body : Expr} {scope : Scope} {t : XK → TE} {p lpos pos : Pos} (hg : Gl X x) (hm : X.mg x = some (.ref g)) (hk : PySem.W.keepIn X.K (.ref g) = true)
    (lk : X.K.lookup g = some ⟨oc, od, .func (PySem.W.fnOf x x pg bg sg dV kV doc pm an cdv ct), osl⟩) (hcg : PySem.W.codeIn X.K cdv x = true) (hb : L2.Binds X.K (PySem.W.fnOf x x pg bg sg dV kV doc pm an cdv ct) [a] []) (Sg : FnScope Ng [a] sg) (hNg : Ng[0]? = some a) (hva : Vis sg a)
    (hG : Gives X Ng x sg g cdv bg a (X.env.qual ++ "<lambda>") TT)
    (TB : TabB X.base X.mg c P) (hcode : X.env.code = .ref c) (hmT : (P, X.env.qual ++ "<lambda>") ∈ T) (hu : ∀ p ∈ T, p.1 = P → p.2 = X.env.qual ++ "<lambda>") (hk2 : 1 ≤ k) (hr : Room (k + 2) X.A) (L : LamS X.env.scope scope) (hdef : defaultsOf params X.env = ([], []))
    (hbind : ∀ (q : Str) (cl : List (Str × Addr)) (pm cv ctv : Value), bindArgs (PySem.W.kla_fn "<lambda>" q params body scope cl pm cv ctv) ⟨[], []⟩ = pure [])
    (hbody : ∀ (A : Around) (outer : List Env) (s : Shared) (H : Hp) (E : XK) (f c' : Addr), Room k (A.deeper (lamEnv X scope s.heap.objs.size f c')) → PE (lamN X A outer s H E scope f c') body (t E))
    (hdb : (x == ("__debug__" : Str)) = false) (hd : (a == ("__debug__" : Str)) = false) (hcd : (a == ("__classdict__" : Str)) = false) :
    PE X (.Call (.Name x p) [.Lambda params body scope lpos] [] pos) (tLam T TT t) := by
  refine ⟨fun pins s τ H Q I h => ?_⟩
  obtain ⟨hT, h⟩ := h
  refine wpAny_Call_Name_kw (ld_glob I hg hm ?_ hdb)
  refine PySem.W.callWith_K (h₀ := X.base) I.ok.mod.kin hk ?_ (by rfl) (by rfl)
  show wpAny _ _ (spliced ((false, eval (.Lambda params body scope lpos) X.env) :: backTo pos (starEach [] X.env))) _ _ s
  refine Calls.spliced_cons (lam_make2 I TB hcode hmT hu hT hdef (L.has I.ok) fun f c' pm' ctv H1 s' I1 eN T1 hf fn ff hco => ?_)
  refine Calls.spliced_nil ⟨I1.kIn, ?_⟩
  have called : codeAny (model X.prog X.w) X.A (.call (.ref g) ⟨[.ref f], []⟩) (CR C8.CX0 X.stack X.prog X.w H1 s' Q C8.E0) s' := by
    refine run_ofS (N := Ng) (ps := [a]) (us := [.ref f]) (vs := [.ref f]) lk hcg Sg hr I1.env0 (hb s' [.ref f] I1.kIn rfl) (.cons rfl .nil) rfl fun hr' => ?_
    obtain ⟨t', ht', hq'⟩ := hG f c' s' H1 Q (fun E H' Q' => t E τ H' Q') (fun W pn xe E p1 p2 tk hW => lamAct (i := 0) I1 L hf fn ff (hbind _ _ _ _ _) tk hW hr' (fun A outer s H hr2 => hbody A outer s H E f c' hr2) hNg hva hd hcd) (hr'.mono (by omega)) hco (h H1 eN T1)
    exact ⟨t', ht'.nox, hq'⟩
  refine wpAny_call (codeAny_mono called fun r s2 hq => ?_)
  cases r with
  | error e => exact (show False from hq).elim
  | ok fl =>
    cases fl with
    | ret u => exact I1.after hq
    | next => exact False.elim hq
    | brk => exact False.elim hq
    | cont => exact False.elim hq
/-- what the error's words are to do -/
def owesW (g : Mg) (wd : Str → Option Str) (Q : VK) : XK := fun cls d H =>
  ∃ c z D M mu, wd c = some z ∧ ErrC g.K g.m c D ∧ cls = .ref D ∧ d = none ∧ StoOk g H mu mu M ∧ ∀ v H' mu', Le H mu H' mu' → Post g H H' mu' M (.p (.str z)) v → Q v H'
/-- try: a() / except RibbonError as e: return _law_names(e) / return "" -/
def TTw (g : Mg) (wd : Str → Option Str) : (XK → Hp → VK → Prop) → Hp → VK → Prop := fun tl H Q => tl (owesW g wd Q) H fun _ H' => Q (.str "") H'
theorem word_gives {X : Cx} {fN : Addr} {wd : Str → Option Str} {Ng : List Str} {x a n q : Str} {sg : Scope} {g : Addr} {cdg : Value} {i j : Nat} {p1 p2 p3 p4 q1 q2 q3 q4 p5 p6 p7 p8 : Pos} (NG : NamesG X.prog X.w X.K X.mg X.base fN wd) (hRE : ∃ B, X.mg "RibbonError" = some (.ref B))
    (hgb : sg.names.lookup ("RibbonError" : Str) = some .globalImplicit) (hgn : sg.names.lookup ("_law_names" : Str) = some .globalImplicit)
    (nd : Ng.Nodup) (hi : Ng[i]? = some n) (hl : sg.names.lookup n = some .local) (hn : okName n = true) (h0 : ∀ f : Addr, (L2.start Ng [V.ref f])[0]? = some (some (V.ref f))) :
    Gives X Ng x sg g cdg [.Try [.Expr (.Call (.Name a p1) [] [] p2) p3] [.ExceptHandler (some (.Name "RibbonError" p4)) (some n) [.Return (some (.Call (.Name "_law_names" q1) [.Name n q2] [] q3)) q4] p5] [] [] p6, .Return (some (.Constant (.str "") j p7)) p8] a q (TTw X.g wd) := by
  intro f c' s H Q tl act hr hc h
  obtain ⟨B, hB⟩ := hRE
  have hgl : Gl (cxOf C8.CX0 X.prog X.w X.K X.mg X.base Ng x sg g cdg X.A X.stack s H C8.E0).nox "RibbonError" := hgb
  have hgl2 : Gl (cxOf C8.CX0 X.prog X.w X.K X.mg X.base Ng x sg g cdg X.A X.stack s H C8.E0) "_law_names" := hgn
  refine ⟨_, pss_cons (L2N.ps_try_as (X := (cxOf C8.CX0 X.prog X.w X.K X.mg X.base Ng x sg g cdg X.A X.stack s H C8.E0).nox) (c := .ref B) (Wout := fun _ _ _ _ => False) (i := i)
      (tb := fun W D τ H => ∃ Ech : XK, (∀ cls d σ' H', Ech cls d H' → W cls d σ' H') ∧ τ[0]? = some (some (.ref f)) ∧ H c' = some (CodeO c' q) ∧ tl Ech H fun _ H' => D.nx τ H')
      (ts := fun a cls d D τ H => tNm X.g wd i a cls d τ H D.rt)
      rfl rfl nd hi hl ⟨hgl, by decide, .inl hB⟩ (fun u s' xx => ?_) (fun W pn xe tk po => ?_) (fun a oe cls d pn zn hf => ?_)) (pss_one (ps_ret pe_str)), ?_⟩
  · obtain ⟨_, _, _, _, _, _, _, _, _, _, _, _, _, _, _, _, z⟩ := xx
    exact z.elim
  · refine ⟨fun pins s' τ H' D I h' => ?_⟩
    obtain ⟨Ech, hW, h1, h2, h3⟩ := h'
    exact (pss_one (ps_expr (pos := p3) (act W pn xe Ech p1 p2 tk hW) rfl)).run pins s' τ H' D I ⟨h1, h2, h3⟩
  · exact pss_one (ps_ret (pe_names (X := cxOf C8.CX0 X.prog X.w X.K X.mg X.base Ng x sg g cdg X.A X.stack s H C8.E0) NG hr (by decide) hgl2 hi (.inl hl) hn zn hf))
  · refine ⟨owesW X.g wd Q, fun cls d σ' H' ⟨c, z, D, M, mu, hz, C, e1, e2, st, hq⟩ => ?_, h0 f, hc, h⟩
    obtain ⟨B', hB', hx⟩ := C.base
    have hB' : X.mg "RibbonError" = some (.ref B') := hB'
    rw [hB] at hB'
    cases hB'
    exact ⟨true, by rw [e1]; exact hx, fun _ a na => ⟨c, z, D, M, mu, hz, C, e1, e2, ⟨_, rfl⟩, st, hq⟩, fun z => by cases z⟩

theorem word_of {g : Mg} {W : WX} {wd : Str → Option Str} {f : EvD} {τ : L2.St} {H : Hp} {Q : VK} (hE : ∀ c z, wd c = some z → ∃ D, ErrC g.K g.m c D) (h : tE g W (eWord wd f) τ H Q) :
    tLam (TK g.K) (TTw g wd) (fun E => tE g (fun cls d _ H => E cls d H) f) τ H Q := by
  obtain ⟨σ, M, mu, s, st, h⟩ := h
  refine ⟨st.tab, fun H1 eN T1 => ?_⟩
  have l : Le H mu H1 mu := ⟨List.prefix_refl _, fun a u _ n e => eN a u e n, fun _ z => .inl z, le_back fun a u n e => eN a u e n⟩
  have st1 : StoOk g H1 mu mu M := by
    refine ⟨T1, st.len, st.nd, st.sub, fun n mo q => ?_⟩
    obtain ⟨a, a1, a2⟩ := st.obj n mo q
    refine ⟨a, a1, ?_⟩
    cases mo with
    | lst ps =>
      obtain ⟨vs, k1, k2⟩ := a2
      exact ⟨vs, eN _ _ k1 ntb_lst, k2.mono l⟩
    | ins c fs =>
      obtain ⟨C, dx, vs, k0, k1, k2⟩ := a2
      exact ⟨C, dx, vs, k0, eN _ _ k1 ntb_ins, k2.mono l⟩
  refine ⟨σ, M, mu, s.mono l, st1, ?_⟩
  unfold eWord at h
  cases e : f σ M with
  | ok d M1 =>
    rw [e] at h
    exact fun v H2 mu2 l2 p2 => h (.str "") H2 mu2 (l.trans l2) ⟨p2.val.1, by show Rep _ _ _ _ _; unfold Rep; rfl⟩
  | no => rw [e] at h; exact h.elim
  | er c m M1 =>
    rw [e] at h
    cases m with
    | some _ => exact h.elim
    | none =>
      dsimp only at h
      cases hz : wd c with
      | none => rw [hz] at h; exact h.elim
      | some z =>
        rw [hz] at h
        intro cls dd H2 mu2 l2 st2 x
        obtain ⟨D1, C1⟩ := hE c z hz
        obtain ⟨C', g1, g2, g3⟩ := x
        rw [C1.at_] at g1
        cases g1
        exact ⟨c, z, D1, M1, mu2, hz, C1, g2, g3, st2, fun v H3 mu3 l3 p3 => h v H3 mu3 ((l.trans l2).trans l3) (p3.back (l.trans l2).back)⟩
/-- what is known of _law_word and _law_names -/
structure WordG (P : Program) (w : World) (K : PySem.W.Frag) (mg : Str → Option Value) (base : Heap) (wd : Str → Option Str) (fN : Addr) : Prop where
  names : NamesG P w K mg base fN wd
  err : ∀ c z, wd c = some z → ∃ D, ErrC K mg c D
  base : ∃ B, mg "RibbonError" = some (.ref B)
def wordBody (a n : Str) (p : Nat → Pos) (j : Nat) : List Stmt :=
  [.Try [.Expr (.Call (.Name a (p 0)) [] [] (p 1)) (p 2)] [.ExceptHandler (some (.Name "RibbonError" (p 3))) (some n) [.Return (some (.Call (.Name "_law_names" (p 4)) [.Name n (p 5)] [] (p 6))) (p 7)] (p 8)] [] [] (p 9), .Return (some (.Constant (.str "") j (p 10))) (p 11)]
theorem word_all {P : Program} {w : World} {K : PySem.W.Frag} {mg : Str → Option Value} {base : Heap} {wd : Str → Option Str} {fN g : Addr} {fd : FuncData} {params : Arguments} {scope : Scope} {N : List Str} {a n : Str} {p : Nat → Pos} {j i : Nat} {body : List Stmt} (G : WordG P w K mg base wd fN)
    (F : FunD K "_law_word" "_law_word" params body scope [] [] g fd) (hbody : body = wordBody a n p j) (gx : mg "_law_word" = some (.ref g)) (S : C8.scC N [a] scope = true)
    (hb : ∀ (kV doc pm : Value) (an : Option Addr) (cdv ct : Value) (us : List Value), us.length = 1 → bindArgs (PySem.W.fnOf "_law_word" "_law_word" params body scope .none kV doc pm an cdv ct) ⟨us, []⟩ = pure ([a].zip us))
    (hgb : scope.names.lookup ("RibbonError" : Str) = some .globalImplicit) (hgn : scope.names.lookup ("_law_names" : Str) = some .globalImplicit)
    (hi : N[i]? = some n) (hl : scope.names.lookup n = some .local) (hn : okName n = true) (ha : okName a = true) (hva : isVis scope a = true) (hN0 : N[0]? = some a) : WordAll P w K mg base wd := by
  intro X k e1 e2 e3 e4 e5 hr hk co params' body' scope' f q1 lpos pos hg hna L hbd W tk
  subst e1 e2 e3 e4 e5
  have bnd := F.bindsN (ps := [a]) hb
  obtain ⟨oc, od, dV, kV, doc, pm, an, cdv, ct, osl, rfl, lk, hcd, _, _⟩ := F.ex
  obtain ⟨c, P', hc, TB, hm, hu⟩ := co
  have Sc := C8.fnScope_by S
  have e := noArgs_eq hna
  subst e
  have va : Vis scope a := by
    unfold isVis at hva
    split at hva
    · exact .inl (by assumption)
    · exact .inr (.inl (by assumption))
    · exact .inr (.inr (by assumption))
    · cases hva
  refine PE.imp (pe_lamcallN (X := X) (T := TK X.K) (TT := TTw X.g wd) (a := a) (k := k) (t := fun E => tE X.g (fun cls d _ H => E cls d H) f) hg gx F.kp lk hcd bnd Sc hN0 va ?_ TB hc hm hu hk hr L rfl ?_
    (fun A outer s H E f' c' hr' => hbd A outer s H E f' c' hr' _ lam_takes) (by decide) (okName_1 ha) (okName_2 ha)) fun τ H Q h => word_of (g := X.g) G.err h
  · rw [hbody]
    refine word_gives (X := X) G.names G.base hgb hgn Sc.nd hi hl hn fun f => ?_
    unfold L2.start
    rfl
  · intro q cl pm cv ctv
    rfl
theorem try_all {X : Cx} {wd : Str → Option Str} {fN : Addr} {k : Nat} (G : WordG X.prog X.w X.K X.mg X.base wd fN) (hs : X.stack = X.env :: X.outer) (hf : X.env.frame = some X.env.locals) (nd : X.N.Nodup) (hr : Room k X.A) (hk : 1 ≤ k) : TryAll X wd := by
  intro body fb n i np q1 q2 q3 q4 pos pos' hi hl hn hg hb hbody
  exact psv_tryW hs hf nd hi hl G.names G.err hr hk hg hb G.base hn hbody
end Ev

set_option Elab.async false
set_option linter.all false
set_option maxRecDepth 100000
set_option maxHeartbeats 4000000
/-! Core14: a def of the text, by its compiled body. -/
namespace Ev
open PySem PySem.Spec PyProof.Rows L2

/-- the great number -/
def GRT : Int := 10 ^ 30
structure GlOk (K : PySem.W.Frag) (mg : Str → Option Value) (cst : List (Str × P)) (exc : List Str) : Prop where
  cst : ∀ x p, (x, p) ∈ cst → ∃ u v, mg x = some u ∧ RelV v u ∧ ∀ H mu, Rep ⟨mg, K⟩ H mu p v
  blt : ∀ x ∈ bltN, mg x = none
  exc : ∀ x ∈ exc, ExcG K mg x
/-- lambdas and trys -/
structure WOk (P : Program) (w : World) (K : PySem.W.Frag) (mg : Str → Option Value) (base : Heap) (wd : Str → Option Str) : Prop where
  g : ∃ fN, WordG P w K mg base wd fN
  all : WordAll P w K mg base wd
  tab : ∀ x ∈ lamDefs, hasG K x = true → LamX.TabB base mg (He.cT K (x, none)).1 (He.cT K (x, none)).2
  nd : ((TK K).map (·.1)).Nodup
theorem nodup_fst {α β : Type} : ∀ {l : List (α × β)} {p q : α × β}, (l.map (·.1)).Nodup → p ∈ l → q ∈ l → p.1 = q.1 → p.2 = q.2
  | [], _, _, _, h, _, _ => nomatch h
  | a :: r, p, q, nd, hp, hq, e => by
    rw [List.map_cons, List.nodup_cons] at nd
    rcases List.mem_cons.mp hp with rfl | hp
    · rcases List.mem_cons.mp hq with rfl | hq
      · rfl
      · exact absurd (List.mem_map.mpr ⟨q, hq, e.symm⟩) nd.1
    · rcases List.mem_cons.mp hq with eq | hq
      · exact absurd (List.mem_map.mpr ⟨p, hp, by rw [e, eq]⟩) nd.1
      · exact nodup_fst nd.2 hp hq e
def Fns (P : Program) (w : World) (K : PySem.W.Frag) (mg : Str → Option Value) (base : Heap) (k : Nat) (l : List (Str × Nat × Fn)) : Prop := ∀ x n F, (x, n, F) ∈ l → FnG P w K mg base k x n F
section
variable {P : Program} {w : World} {K : PySem.W.Frag} {mg : Str → Option Value} {base : Heap} {k : Nat} {cst : List (Str × Ev.P)} {exc : List Str}
theorem fns_nil : Fns P w K mg base k [] := fun _ _ _ h => (nomatch h)
theorem fns_cons {j : Nat} {x : Str} {n : Nat} {F : Fn} {l : List (Str × Nat × Fn)} (h : FnG P w K mg base j x n F) (r : Fns P w K mg base k l) (hj : j ≤ k) : Fns P w K mg base k ((x, n, F) :: l) := fun y m G hm => by
  rcases List.mem_cons.mp hm with e | hm
  · cases e; exact h.mono hj
  · exact r y m G hm
/-- what a def with lambdas, with a try needs; lb, tb: has it such -/
def NeedW (P : Program) (w : World) (K : PySem.W.Frag) (mg : Str → Option Value) (base : Heap) (k : Nat) (x : Str) (f : Addr) (fns : List (Str × Nat × Fn)) (wd : Str → Option Str) (lb tb : Bool) : Prop :=
  (lb = true ∨ tb = true → WOk P w K mg base wd ∧ 1 ≤ k) ∧ (lb = true → x ∈ lamDefs ∧ hasG K x = true ∧ f = He.fAd K (x, none) ∧ ∃ j, j + 2 ≤ k ∧ 1 ≤ j ∧ Fns P w K mg base j fns)
theorem need_no {P : Program} {w : World} {K : PySem.W.Frag} {mg : Str → Option Value} {base : Heap} {k : Nat} {x : Str} {f : Addr} {fns : List (Str × Nat × Fn)} {wd : Str → Option Str} : NeedW P w K mg base k x f fns wd false false := ⟨fun h => by simp at h, fun h => by cases h⟩
theorem fn_ok {lb tb : Bool} {wd : Str → Option Str} {x : Str} {params : Arguments} {body : List Stmt} {scope : Scope} {f : Addr} {fd : FuncData} {N ps : List Str} {fns : List (Str × Nat × Fn)} {mu : List Str} {m : Nat} {b : EvS} (G : GlOk K mg cst exc)
    (F : FunD K x x params body scope [] [] f fd) (S : C8.scC N ps scope = true)
    (hf : Fns P w K mg base k fns) (hn : NeedW P w K mg base k x f fns wd lb tb) (hc : (cmp m).ss ⟨N, scope, fns, cst, mu, exc, fun _ => true, if lb = true then some wd else none, if tb = true then some wd else none⟩ body = some b) : FnOk P w K mg base (L2N.CX P w) (k + 1) f fd ps (spOf ⟨mg, K⟩ ps.length (fnB N.length b)) := by
  have Sc := C8.fnScope_by S
  obtain ⟨oc, od, dV, kV, doc, pm, an, cdv, ct, osl, rfl, lk, hcd, _, _⟩ := F.ex
  refine fn_body lk hcd Sc fun A outer s H E hr => ?_
  have C : CtxOk (cxOf (L2N.CX P w) P w K mg base N x scope f cdv A outer s H E) k ⟨N, scope, fns, cst, mu, exc, fun _ => true, if lb = true then some wd else none, if tb = true then some wd else none⟩ :=
    { N := rfl, nd := Sc.nd, sc := rfl, kind := Sc.kind, calm := rfl, room := hr, fns := hf, cst := G.cst, fn := fun x hx => rfl, blt := G.blt, exc := G.exc,
      lam := fun wd' hw => by
        dsimp only at hw
        split at hw
        case isFalse => cases hw
        rename_i hlb
        cases hw
        obtain ⟨W, _⟩ := hn.1 (.inl hlb)
        obtain ⟨hx, some_, hfx, j, j1, j2, j3⟩ := hn.2 hlb
        refine ⟨?_, W.all, j, j1, j2, j3⟩
        obtain ⟨c, ec⟩ := He.codeIn_ref hcd
        have lk2 := lk
        rw [hfx] at lk2
        have e1 := He.codeOf_eq (p := (x, none)) lk2 ec
        have tb := W.tab x hx some_
        have mem : ((He.cT K (x, none)).2, (x ++ (".<locals>." : Str)) ++ ("<lambda>" : Str)) ∈ TK K := List.mem_filterMap.mpr ⟨x, hx, if_pos some_⟩
        have e2 : (He.cT K (x, none)).1 = c := e1
        rw [e2] at tb
        have hq : (cxOf (L2N.CX P w) P w K mg base N x scope f cdv A outer s H E).env.qual = x ++ (".<locals>." : Str) := rfl
        unfold CodeOk
        rw [hq]
        have uniq : ∀ p ∈ TK K, p.1 = (He.cT K (x, none)).2 → p.2 = (x ++ (".<locals>." : Str)) ++ ("<lambda>" : Str) := by
          generalize hq2 : (x ++ (".<locals>." : Str)) ++ ("<lambda>" : Str) = qq at mem
          intro p hp e
          exact nodup_fst (q := ((He.cT K (x, none)).2, qq)) W.nd hp mem e
        exact ⟨c, (He.cT K (x, none)).2, ec, tb, mem, uniq⟩
      tryw := fun wd' hw => by
        dsimp only at hw
        split at hw
        case isFalse => cases hw
        rename_i htb
        cases hw
        obtain ⟨W, hk1⟩ := hn.1 (.inr htb)
        obtain ⟨fN, WG⟩ := W.g
        exact try_all (X := cxOf (L2N.CX P w) P w K mg base N x scope f cdv A outer s H E) WG rfl rfl Sc.nd hr hk1 }
  exact (snd m).ss C ⟨L2.passes_of rfl⟩ hc
theorem fn_mk {lb tb : Bool} {wd : Str → Option Str} {x : Str} {params : Arguments} {body : List Stmt} {scope : Scope} {f : Addr} {fd : FuncData} {N ps : List Str} {fns : List (Str × Nat × Fn)} {mu : List Str} {m : Nat} {b : EvS} (G : GlOk K mg cst exc)
    (F : FunD K x x params body scope [] [] f fd) (gx : mg x = some (.ref f)) (S : C8.scC N ps scope = true)
    (hb : ∀ (kV doc pm : Value) (an : Option Addr) (cdv ct : Value) (us : List Value), us.length = ps.length → bindArgs (PySem.W.fnOf x x params body scope .none kV doc pm an cdv ct) ⟨us, []⟩ = pure (ps.zip us))
    (hf : Fns P w K mg base k fns) (hn : NeedW P w K mg base k x f fns wd lb tb) (hc : (cmp m).ss ⟨N, scope, fns, cst, mu, exc, fun _ => true, if lb = true then some wd else none, if tb = true then some wd else none⟩ body = some b) : FnG P w K mg base (k + 1) x ps.length (fnB N.length b) :=
  ⟨f, fd, ps, fn_ok G F S hf hn hc, gx, F.kp, F.bindsN hb⟩
theorem fn_no {x : Str} {params : Arguments} {body : List Stmt} {scope : Scope} {f : Addr} {fd : FuncData} {ps : List Str}
    (F : FunD K x x params body scope [] [] f fd) (gx : mg x = some (.ref f))
    (hb : ∀ (kV doc pm : Value) (an : Option Addr) (cdv ct : Value) (us : List Value), us.length = ps.length → bindArgs (PySem.W.fnOf x x params body scope .none kV doc pm an cdv ct) ⟨us, []⟩ = pure (ps.zip us)) : FnG P w K mg base k x ps.length (fun _ _ => .no) :=
  ⟨f, fd, ps, ⟨fun vs H Q E ⟨ds, M, mu, hl, r, _⟩ => by rw [r.length, hl], fun A outer s H args us vs Q E hr e0 hb' hv ⟨ds, M, mu, hl, r, st, z⟩ => z.elim⟩, gx, F.kp, F.bindsN hb⟩
/-- a call's errors, whatever the world -/
def CXA : CXT := fun outer H s E e s' => ∃ P w, L2N.CX P w outer H s E e s'
theorem fn_cxa {f : Addr} {fd : FuncData} {ps : List Str} {sp : Sp} (F : FnOk P w K mg base (L2N.CX P w) k f fd ps sp) : FnOk P w K mg base CXA k f fd ps sp :=
  ⟨F.len, fun A outer s H args us vs Q E hr e0 hb hv hs => codeAny_mono (F.run A outer s H args us vs Q E hr e0 hb hv hs) fun r s' h => by
    cases r with
    | error e => exact ⟨P, w, h⟩
    | ok fl => cases fl <;> exact h⟩
theorem cxa_false {H : Hp} {s : Shared} {e : Value} {s' : Shared} (h : CXA [] H s (fun _ _ _ => False) e s') : False := by
  obtain ⟨_, _, _, _, _, _, _, _, _, _, _, _, _, _, z⟩ := h
  exact z
theorem exc_g {x : Str} (g : mg x = some (.ref (He.ga K x))) (c : (He.Fa.exc x).ok K = true) : ExcG K mg x := by
  obtain ⟨h1, h2, h3, h4⟩ := He.exc_ok c
  exact ⟨_, _, _, _, _, PySem.F.excBase_ValueError, h1, g, h2, h3, h4⟩
theorem hasG_of {x : Str} (c : (He.Fa.glo x).ok K = true) : hasG K x = true := by
  have e := He.eqO_ok c
  unfold hasG
  rw [e]
/-- what is looked at of an error's class -/
def errB (K : PySem.W.Frag) (c : Str) : Bool :=
  He.eqO (PySem.W.findIn K (.ref (He.ga K c)) "__getattribute__") (some (some (.builtin "BaseException.__getattribute__"))) && (He.eqO (PySem.W.findIn K (.ref (He.ga K c)) "__getattr__") (some none) && (decide (PySem.W.subIn K (.ref (He.ga K c)) (.type "BaseException") = some true) &&
    (PySem.W.hasDictIn K (He.ga K c) && (He.eqO (PySem.W.findIn K (.ref (He.ga K c)) "__class__") (some (some (.builtin "object.__class__"))) && (He.eqO (PySem.W.specialIn K (.builtin "object.__class__") "__get__") (some (some (.builtin "getset_descriptor.__get__"))) &&
    (decide (PySem.W.takesIn K (.builtin "object.__class__") = some true) && (decide (PySem.W.mroIn K (He.ga K c) (.type "object") = some true) && (decide (PySem.W.exmOne K (.ref (He.ga K c)) (.ref (He.ga K "RibbonError")) = some true) &&
    ((errT.all fun x => (He.Fa.glo x).ok K && decide (PySem.W.kitOne K (.ref (He.ga K c)) (.ref (He.ga K x)) = some (decide (x = c)))) && (decide (PySem.W.kitOne K (.ref (He.ga K c)) (.type "ValueError") = some true) && ((He.Fa.glo c).ok K && ((He.Fa.glo "RibbonError").ok K && (He.Fa.free "ValueError").ok K))))))))))))
theorem errB_ok {h : Heap} {c : Str} (X : K.In h) (G : h.Ns mainGlobals mg) (e : errB K c = true) : ErrC K mg c (He.ga K c) := by
  unfold errB at e
  simp only [Bool.and_eq_true, decide_eq_true_eq, List.all_eq_true] at e
  obtain ⟨e1, e2, e3, e4, e5, e6, e7, e8, e9, e10, e11, e12, e13, e14⟩ := e
  exact ⟨He.glo_ok X G e12, ⟨He.eqO_ok e1, He.eqO_ok e2, e3, e4, He.eqO_ok e5, He.eqO_ok e6, e7, e8⟩, ⟨_, He.glo_ok X G e13, e9⟩, fun x hx => ⟨_, He.glo_ok X G (e10 x hx).1, (e10 x hx).2⟩, He.free_ok X G e14, e11⟩
theorem cst_int {x : Str} {i : Int} {t : Tok} (h : mg x = some (.int i t)) : ∃ u v, mg x = some u ∧ RelV v u ∧ ∀ H mu, Rep ⟨mg, K⟩ H mu (.int i) v :=
  ⟨_, .int i, h, ⟨t, rfl⟩, fun H mu => by unfold Rep; rfl⟩
theorem cst_str {x z : Str} {t : Tok} (h : mg x = some (.str z t)) : ∃ u v, mg x = some u ∧ RelV v u ∧ ∀ H mu, Rep ⟨mg, K⟩ H mu (.str z) v :=
  ⟨_, .str z, h, ⟨t, rfl⟩, fun H mu => by unfold Rep; rfl⟩
/-- the law's def: its promise at the script -/
def lawSp (K : PySem.W.Frag) (mg : Str → Option Value) (F : Fn) : Prop := ∀ ns : List Int, ns.length ≤ 63 → ∃ M, F [.p (.scr ns)] [] = .ok (.p (.bl true)) M
theorem law_sp {F : Fn} (h : lawSp K mg F) {H : Hp} {a : Addr} {ns : List Int} (hl : ns.length ≤ 63) (tb : TbsOk ⟨mg, K⟩ H) (hS : SqL K H a (ns.map V.int)) : spOf ⟨mg, K⟩ 1 F [.ref a] H (fun v _ => v = .bl true) fun _ _ _ => False := by
  obtain ⟨M, e⟩ := h ns hl
  refine ⟨[.p (.scr ns)], [], [], rfl, ⟨.ref a, [], rfl, ?_, rfl⟩, ⟨tb, rfl, List.nodup_nil, fun _ q => (nomatch q), fun n mo q => (by simp at q)⟩, ?_⟩
  · show Rep _ _ _ _ _
    unfold Rep
    refine ⟨a, rfl, ?_⟩
    rcases hS with h | h
    · exact .inl ⟨fun z => (nomatch z), h⟩
    · exact .inr h
  · rw [e]
    intro v H' mu' l p
    have z : Rep _ _ _ _ _ := p.2
    unfold Rep at z
    exact z
/-- the tables are empty yet -/
theorem tbs_start {H : Hp} (h : ∀ p ∈ TK K, H p.1 = some (.tbl #[])) : TbsOk ⟨mg, K⟩ H := fun p hp => LamX.TabS.nil (h p hp)
end
end Ev

set_option Elab.async false
set_option linter.all false
set_option maxRecDepth 100000
set_option maxHeartbeats 4000000
/-! Core15: reckoning with the combinators. -/
namespace Ev
open PySem


section
variable {σ : Fr} {M : Sto} {fa fb fc f : EvD} {fs r : EvA} {c k : EvB} {s1 s2 : EvS} {o o' : P → P → Option D} {i : Nat} {ids : List Nat}
@[simp] theorem x_eC {p : P} : eC p σ M = .ok (.p p) M := rfl
@[simp] theorem x_eVar : eVar i σ M = (match σ[i]? with
  | some (some d) => .ok d M
  | _ => .no) := rfl
@[simp] theorem x_eBin : eBin o fa fb σ M = (fa σ M).bind fun d1 M1 => (fb σ M1).bind fun d2 M2 => op2 o d1 d2 M2 := rfl
@[simp] theorem x_op2 {d1 d2 : D} : op2 o d1 d2 M = (match d1.get M, d2.get M with
  | some p, some q => (match o p q with
    | some d => .ok d M
    | none => .no)
  | _, _ => .no) := rfl
@[simp] theorem x_get {p : P} : D.get M (.p p) = some p := rfl
@[simp] theorem x_getn {p : List P} : D.get M (.nw p) = some (.lst p) := rfl
@[simp] theorem x_getl {n : Nat} : D.get M (.loc n) = (match M[n]? with
  | some (.lst ps) => some (.lst ps)
  | _ => none) := rfl
@[simp] theorem x_val {p : P} : D.val (.p p) = .p p := rfl
@[simp] theorem x_valn {p : List P} : D.val (.nw p) = .p (.lst p) := rfl
@[simp] theorem x_vall {n : Nat} : D.val (.loc n) = .loc n := rfl
@[simp] theorem x_aNil : aNil σ M = .ok [] M := rfl
@[simp] theorem x_aCons : aCons f r σ M = (f σ M).bind fun d M1 => (r σ M1).bind fun ds M2 => .ok (d.val :: ds) M2 := rfl
@[simp] theorem x_eCall {n : Nat} {F : Fn} : eCall n F fs σ M = (fs σ M).bind fun ds M1 => if ds.length = n then F ds M1 else .no := rfl
@[simp] theorem x_eCB {o : List P → Option D} : eCB o fs σ M = (fs σ M).bind fun ds M1 => match getL M1 ds with
  | some ps => (match o ps with
    | some d => .ok d M1
    | none => .no)
  | none => .no := rfl
@[simp] theorem x_getL0 : getL M [] = some [] := rfl
@[simp] theorem x_getL {d : D} {ds : List D} : getL M (d :: ds) = (match d.get M, getL M ds with
    | some p, some ps => some (p :: ps)
    | _, _ => none) := rfl
@[simp] theorem x_bOf : bOf f σ M = (f σ M).bind fun d M1 => match d with
  | .p (.bl b) => .ok b M1
  | _ => .no := rfl
@[simp] theorem x_bTru : bTru f σ M = (f σ M).bind fun d M1 => match d.get M1 with
  | some p => (match p.tru with
    | some b => .ok b M1
    | none => .no)
  | none => .no := rfl
@[simp] theorem x_bNot : bNot c σ M = (c σ M).bind fun b M1 => .ok (!b) M1 := rfl
@[simp] theorem x_bAnd : bAnd c k σ M = (c σ M).bind fun b M1 => if b = true then k σ M1 else .ok false M1 := rfl
@[simp] theorem x_bOr : bOr c k σ M = (c σ M).bind fun b M1 => if b = true then .ok true M1 else k σ M1 := rfl
@[simp] theorem x_bYes : bYes σ M = .ok true M := rfl
@[simp] theorem x_eAnd : eAnd fa fb σ M = (fa σ M).bind fun d M1 => match d.get M1 with
  | some p => (match p.tru with
    | some true => fb σ M1
    | some false => .ok d.val M1
    | none => .no)
  | none => .no := rfl
@[simp] theorem x_eOr : eOr fa fb σ M = (fa σ M).bind fun d M1 => match d.get M1 with
  | some p => (match p.tru with
    | some true => .ok d.val M1
    | some false => fb σ M1
    | none => .no)
  | none => .no := rfl
@[simp] theorem x_eNot : eNot fa σ M = (bTru fa σ M).bind fun b M1 => .ok (.p (.bl (!b))) M1 := rfl
@[simp] theorem x_eIf : eIf c fa fb σ M = (c σ M).bind fun b M1 => if b = true then fa σ M1 else fb σ M1 := rfl
@[simp] theorem x_eChain : eChain o o' fa fb fc σ M = (fa σ M).bind fun d1 M1 => (fb σ M1).bind fun d2 M2 => (op2 o d1 d2 M2).bind fun d M3 => match d with
  | .p (.bl true) => (fc σ M3).bind fun d3 M4 => op2 o' d2.val d3 M4
  | .p (.bl false) => .ok (.p (.bl false)) M3
  | _ => .no := rfl
@[simp] theorem x_eNeg : eNeg fa σ M = (fa σ M).bind fun d M1 => match d with
  | .p (.int i) => .ok (.p (.int (-i))) M1
  | .p (.bl b) => .ok (.p (.int (-(PyProof.Rows.b2i b)))) M1
  | _ => .no := rfl
@[simp] theorem x_eTup : eTup fs σ M = (fs σ M).bind fun ds M1 => match allP ds with
  | some ps => if ps.length ≤ lim then .ok (.p (.tup ps)) M1 else .no
  | none => .no := rfl
@[simp] theorem x_eLst : eLst fs σ M = (fs σ M).bind fun ds M1 => match allP ds with
  | some ps => if ps.length ≤ lim then .ok (.nw ps) M1 else .no
  | none => .no := rfl
@[simp] theorem x_allP0 : allP [] = some [] := rfl
@[simp] theorem x_allP {p : P} {ds : List D} : allP (.p p :: ds) = (allP ds).map fun ps => p :: ps := rfl
@[simp] theorem x_eIsi {T : String} : eIsi T f σ M = (f σ M).bind fun d M1 => match d.get M1 with
  | some p => (match p.ty with
    | some a => .ok (.p (.bl (isiB a T))) M1
    | none => .no)
  | none => .no := rfl
@[simp] theorem x_sNil : sNil σ M = .ok (.nx σ) M := rfl
@[simp] theorem x_sSeq : sSeq s1 s2 σ M = (match s1 σ M with
  | .ok (.nx σ1) M1 => s2 σ1 M1
  | o => o) := rfl
@[simp] theorem x_sExpr : sExpr f σ M = (f σ M).toS σ fun _ M1 => .ok (.nx σ) M1 := rfl
@[simp] theorem x_sRet : sRet f σ M = (f σ M).toS σ fun d M1 => .ok (.rt d) M1 := rfl
@[simp] theorem x_sRetN : sRetN σ M = .ok (.rt (.p .non)) M := rfl
@[simp] theorem x_sIf : sIf c s1 s2 σ M = (c σ M).toS σ fun b M1 => if b = true then s1 σ M1 else s2 σ M1 := rfl
@[simp] theorem x_sSet : sSet i f σ M = (f σ M).toS σ fun d M1 => .ok (.nx (σ.set i (some d.val))) M1 := rfl
@[simp] theorem x_sNo : sNo σ M = .no := rfl
@[simp] theorem x_sUnp {t : Tg} : sUnp t f σ M = (f σ M).toS σ fun d M1 => match d with
  | .p p => (match tgA t p σ with
    | some σ1 => .ok (.nx σ1) M1
    | none => .no)
  | _ => .no := rfl
@[simp] theorem x_sPar : sPar ids fs σ M = (fs σ M).toS σ fun ds M1 => if ds.length = ids.length then .ok (.nx ((ids.zip ds).foldl (fun σ x => σ.set x.1 (some x.2)) σ)) M1 else .no := rfl
@[simp] theorem x_sAug : sAug i o f σ M = (match σ[i]? with
  | some (some dx) => (f σ M).toS σ fun d M1 => (op2 o dx d M1).toS σ fun r M2 => .ok (.nx (σ.set i (some r.val))) M2
  | _ => .no) := rfl
@[simp] theorem x_iOf : iOf f σ M = (f σ M).bind fun d M1 => match d with
  | .p (.lst ps) => .ok ps M1
  | .p (.tup ps) => .ok ps M1
  | .p (.str s) => .ok (chars s) M1
  | .nw ps => .ok ps M1
  | _ => .no := rfl
@[simp] theorem x_nm {p : P} : tgA (.nm i) p σ = some (σ.set i (some (.p p))) := by unfold tgA; rfl
@[simp] theorem x_tu {ts : List Tg} {ps : List P} : tgA (.tu ts) (.tup ps) σ = if ps.length = ts.length then tgL ts ps σ else none := by
  rw [tgA]
@[simp] theorem x_tgL0 : tgL [] [] σ = some σ := by rw [tgL]
@[simp] theorem x_tgL {t : Tg} {ts : List Tg} {p : P} {ps : List P} : tgL (t :: ts) (p :: ps) σ = (match tgA t p σ with
    | some σ1 => tgL ts ps σ1
    | none => none) := by
  rw [tgL]
  all_goals (cases tgA t p σ <;> rfl)
@[simp] theorem x_lv_nx {n : Nat} : leave n (.ok (.nx σ) M) = .ok (.p .non) (M.take n) := rfl
@[simp] theorem x_lv_p {n : Nat} {p : P} : leave n (.ok (.rt (.p p)) M) = .ok (.p p) (M.take n) := rfl
@[simp] theorem x_lv_n {n : Nat} {p : List P} : leave n (.ok (.rt (.nw p)) M) = .ok (.nw p) (M.take n) := rfl
@[simp] theorem x_lv_er {n : Nat} {x : Str} {y : Option Int} : leave n (.er x y σ M) = .er x y (M.take n) := rfl
@[simp] theorem x_tru_bl {b : Bool} : P.tru (.bl b) = some b := rfl
@[simp] theorem x_tru_int {b : Int} : P.tru (.int b) = some (decide (b ≠ 0)) := rfl
@[simp] theorem x_tru_non : P.tru .non = some false := rfl
@[simp] theorem x_ty_int {b : Int} : P.ty (.int b) = some "int" := rfl
@[simp] theorem x_ty_bl {b : Bool} : P.ty (.bl b) = some "bool" := rfl
@[simp] theorem x_ty_str {b : Str} : P.ty (.str b) = some "str" := rfl
@[simp] theorem x_ty_tup {b : List P} : P.ty (.tup b) = some "tuple" := rfl
@[simp] theorem x_ty_lst {b : List P} : P.ty (.lst b) = some "list" := rfl
@[simp] theorem x_ty_non : P.ty .non = some "NoneType" := rfl
@[simp] theorem isi1 : isiB "int" "int" = true := by decide
@[simp] theorem isi2 : isiB "int" "bool" = false := by decide
@[simp] theorem isi3 : isiB "str" "str" = true := by decide
@[simp] theorem isi4 : isiB "tuple" "tuple" = true := by decide
@[simp] theorem isi5 : isiB "bool" "int" = true := by decide
@[simp] theorem isi6 : isiB "bool" "bool" = true := by decide
@[simp] theorem o_add_i {a b : Int} : oAdd (.int a) (.int b) = some (.p (.int (a + b))) := rfl
@[simp] theorem o_sub_i {a b : Int} : oSub (.int a) (.int b) = some (.p (.int (a - b))) := rfl
@[simp] theorem o_lt_i {a b : Int} : oLt (.int a) (.int b) = some (.p (.bl (decide (a < b)))) := rfl
@[simp] theorem o_le_i {a b : Int} : oLe (.int a) (.int b) = some (.p (.bl (decide (a ≤ b)))) := rfl
@[simp] theorem o_gt_i {a b : Int} : oGt (.int a) (.int b) = some (.p (.bl (decide (b < a)))) := rfl
@[simp] theorem o_ge_i {a b : Int} : oGe (.int a) (.int b) = some (.p (.bl (decide (b ≤ a)))) := rfl
@[simp] theorem o_iadd_i {a b : Int} : oIadd (.int a) (.int b) = some (.p (.int (a + b))) := rfl
@[simp] theorem o_eq_i {a b : Int} : oEq (.int a) (.int b) = some (.p (.bl (decide (a = b)))) := rfl
@[simp] theorem o_ne_i {a b : Int} : oNe (.int a) (.int b) = some (.p (.bl (!decide (a = b)))) := rfl
@[simp] theorem o_eq_s {a b : Str} : oEq (.str a) (.str b) = some (.p (.bl (decide (a = b)))) := rfl
@[simp] theorem o_ne_s {a b : Str} : oNe (.str a) (.str b) = some (.p (.bl (!decide (a = b)))) := rfl
@[simp] theorem o_mod_i {a b : Int} (h : 0 < b) : oMod (.int a) (.int b) = some (.p (.int (a % b))) := by simp [oMod, h]
@[simp] theorem c_abs_i {a : Int} : cAbs [.int a] = some (.p (.int (if a < 0 then -a else a))) := rfl
@[simp] theorem c_int_i {a : Int} : cInt [.int a] = some (.p (.int a)) := rfl
@[simp] theorem c_len_t {a : List P} : cLen [.tup a] = some (.p (.int a.length)) := rfl
@[simp] theorem c_len_l {a : List P} : cLen [.lst a] = some (.p (.int a.length)) := rfl
@[simp] theorem c_len_c {a : List Int} : cLen [.scr a] = some (.p (.int a.length)) := rfl
theorem c_len_s {a : Str} (h : a.length ≤ lim) : cLen [.str a] = some (.p (.int a.length)) := by simp [cLen, h]
end
theorem fnB1 {N : Nat} {f : EvS} {a : D} {M : Sto} : fnB N f [a] M = leave M.length (f (some a :: List.replicate (N - 1) none) M) := rfl
theorem fnB2 {N : Nat} {f : EvS} {a b : D} {M : Sto} : fnB N f [a, b] M = leave M.length (f (some a :: some b :: List.replicate (N - 2) none) M) := rfl
theorem fnB3 {N : Nat} {f : EvS} {a b c : D} {M : Sto} : fnB N f [a, b, c] M = leave M.length (f (some a :: some b :: some c :: List.replicate (N - 3) none) M) := rfl
theorem fnB4 {N : Nat} {f : EvS} {a b c d : D} {M : Sto} : fnB N f [a, b, c, d] M = leave M.length (f (some a :: some b :: some c :: some d :: List.replicate (N - 4) none) M) := rfl
theorem fnB5 {N : Nat} {f : EvS} {a b c d e : D} {M : Sto} : fnB N f [a, b, c, d, e] M = leave M.length (f (some a :: some b :: some c :: some d :: some e :: List.replicate (N - 5) none) M) := rfl
theorem fnB0 {N : Nat} {f : EvS} {M : Sto} : fnB N f [] M = leave M.length (f (List.replicate N none) M) := rfl

/-! the chain, step by step (the kernel never opens a step) -/
theorem seq_ok {s1 s2 : EvS} {σ σ1 : Fr} {M M1 : Sto} (h : s1 σ M = .ok (.nx σ1) M1) : sSeq s1 s2 σ M = s2 σ1 M1 := by rw [x_sSeq, h]
theorem seq_rt {s1 s2 : EvS} {σ : Fr} {M M1 : Sto} {d : D} (h : s1 σ M = .ok (.rt d) M1) : sSeq s1 s2 σ M = .ok (.rt d) M1 := by rw [x_sSeq, h]
theorem set_ok {i : Nat} {f : EvD} {σ : Fr} {M M1 : Sto} {d : D} (h : f σ M = .ok d M1) : sSet i f σ M = .ok (.nx (σ.set i (some d.val))) M1 := by rw [x_sSet, h]; rfl
theorem ret_ok {f : EvD} {σ : Fr} {M M1 : Sto} {d : D} (h : f σ M = .ok d M1) : sRet f σ M = .ok (.rt d) M1 := by rw [x_sRet, h]; rfl
theorem exp_ok {f : EvD} {σ : Fr} {M M1 : Sto} {d : D} (h : f σ M = .ok d M1) : sExpr f σ M = .ok (.nx σ) M1 := by rw [x_sExpr, h]; rfl
theorem unp_ok {t : Tg} {f : EvD} {σ σ1 : Fr} {M M1 : Sto} {p : P} (h : f σ M = .ok (.p p) M1) (h2 : tgA t p σ = some σ1) : sUnp t f σ M = .ok (.nx σ1) M1 := by
  rw [x_sUnp, h]
  show (match tgA t p σ with
    | some σ1 => OutS.ok (.nx σ1) M1
    | none => .no) = _
  rw [h2]
theorem if_t {c : EvB} {a b : EvS} {σ : Fr} {M M1 : Sto} (h : c σ M = .ok true M1) : sIf c a b σ M = a σ M1 := by rw [x_sIf, h]; rfl
theorem if_f {c : EvB} {a b : EvS} {σ : Fr} {M M1 : Sto} (h : c σ M = .ok false M1) : sIf c a b σ M = b σ M1 := by rw [x_sIf, h]; rfl
theorem bin_ok {o : P → P → Option D} {fa fb : EvD} {σ : Fr} {M M1 M2 : Sto} {d1 d2 d : D} {p q : P} (h1 : fa σ M = .ok d1 M1) (h2 : fb σ M1 = .ok d2 M2) (e1 : d1.get M2 = some p) (e2 : d2.get M2 = some q) (e3 : o p q = some d) : eBin o fa fb σ M = .ok d M2 := by
  rw [x_eBin, h1]
  show (fb σ M1).bind _ = _
  rw [h2]
  show op2 o d1 d2 M2 = _
  rw [x_op2, e1, e2]
  show (match o p q with
    | some d => Out.ok d M2
    | none => .no) = _
  rw [e3]
theorem for_ok {t : Tg} {fi : EvI} {b : EvS} {σ : Fr} {M M1 : Sto} {ps : List P} (h : fi σ M = .ok ps M1) : sFor t fi b σ M = forL t b ps σ M1 := by
  unfold sFor
  rw [h]; rfl
theorem callB_ok {o : List P → Option D} {fs : EvA} {σ : Fr} {M M1 : Sto} {ds : List D} {ps : List P} {d : D} (h : fs σ M = .ok ds M1) (h2 : getL M1 ds = some ps) (h3 : o ps = some d) : eCB o fs σ M = .ok d M1 := by
  rw [x_eCB, h]
  show (match getL M1 ds with
    | some ps => (match o ps with
      | some d => Out.ok d M1
      | none => .no)
    | none => .no) = _
  rw [h2]
  show (match o ps with
      | some d => Out.ok d M1
      | none => .no) = _
  rw [h3]
theorem call_ok {n : Nat} {F : Fn} {fs : EvA} {σ : Fr} {M M1 M2 : Sto} {ds : List D} {d : D} (h : fs σ M = .ok ds M1) (hn : ds.length = n) (h2 : F ds M1 = .ok d M2) : eCall n F fs σ M = .ok d M2 := by
  rw [x_eCall, h]
  show (if ds.length = n then F ds M1 else .no) = _
  rw [if_pos hn, h2]
theorem cons_ok {f : EvD} {r : EvA} {σ : Fr} {M M1 M2 : Sto} {d : D} {ds : List D} (h : f σ M = .ok d M1) (h2 : r σ M1 = .ok ds M2) : aCons f r σ M = .ok (d.val :: ds) M2 := by
  rw [x_aCons, h]
  show (r σ M1).bind _ = _
  rw [h2]; rfl
theorem nil_ok {σ : Fr} {M : Sto} : aNil σ M = .ok [] M := rfl
theorem lv_p {b : EvS} {σ : Fr} {M : Sto} {p : P} (h : b σ M = .ok (.rt (.p p)) M) : leave M.length (b σ M) = .ok (.p p) M := by rw [h, x_lv_p, List.take_length]
theorem lv_n {b : EvS} {σ : Fr} {M : Sto} {p : List P} (h : b σ M = .ok (.rt (.nw p)) M) : leave M.length (b σ M) = .ok (.nw p) M := by rw [h, x_lv_n, List.take_length]
theorem lv_x {b : EvS} {σ σ1 : Fr} {M : Sto} (h : b σ M = .ok (.nx σ1) M) : leave M.length (b σ M) = .ok (.p .non) M := by rw [h, x_lv_nx, List.take_length]
/-- a comprehension whose block changes nothing -/
theorem lcL_pure {t : Tg} {ifs : EvB} {el : EvD} {σ : Fr} {M : Sto} {f : P → Option P} : ∀ {ps acc : List P}, (∀ p ∈ ps, ∃ σ1, tgA t p σ = some σ1 ∧ ∀ M', ifs σ1 M' = .ok (f p).isSome M' ∧ ∀ q, f p = some q → ∃ d, el σ1 M' = .ok d M' ∧ d.val = .p q) →
    acc.length + ps.length ≤ lim → lcL t true ifs el M.length σ ps (M ++ [.lst acc]) = .ok (.nw (acc ++ ps.filterMap f)) M
  | [], acc, _, _ => by
    unfold lcL
    rw [List.getElem?_append_right (Nat.le_refl _), Nat.sub_self]
    simp
  | p :: ps, acc, h, hl => by
    obtain ⟨σ1, e1, e2⟩ := h p List.mem_cons_self
    obtain ⟨e3, e4⟩ := e2 (M ++ [.lst acc])
    unfold lcL
    rw [e1]
    dsimp only
    rw [e3]
    have hl' : acc.length + (ps.length + 1) ≤ lim := hl
    cases hf : f p with
    | none =>
      dsimp only [Option.isSome]
      rw [lcL_pure (fun q hq => h q (List.mem_cons_of_mem _ hq)) (by omega), List.filterMap_cons, hf]
    | some q =>
      obtain ⟨d, e5, e6⟩ := e4 q hf
      dsimp only [Option.isSome]
      rw [e5]
      dsimp only
      rw [e6]
      dsimp only
      have ea : addL M.length q (M ++ [.lst acc]) = .ok () (M ++ [.lst (acc ++ [q])]) := by
        unfold addL
        rw [List.getElem?_append_right (Nat.le_refl _), Nat.sub_self]
        have : acc.length < lim := by omega
        simp [this]
      rw [ea]
      dsimp only
      rw [lcL_pure (acc := acc ++ [q]) (fun q hq => h q (List.mem_cons_of_mem _ hq)) (by simp; omega), List.filterMap_cons, hf]
      simp
theorem eLc_pure {t : Tg} {vs : List Nat} {fi : EvI} {ifs : EvB} {el : EvD} {σ : Fr} {M : Sto} {ps : List P} (f : P → Option P) (hi : fi σ M = .ok ps M) (hv : ((tgS t).all fun i => vs.contains i) = true)
    (h : ∀ p ∈ ps, ∃ σ1, tgA t p (wipeF σ vs) = some σ1 ∧ ∀ M', ifs σ1 M' = .ok (f p).isSome M' ∧ ∀ q, f p = some q → ∃ d, el σ1 M' = .ok d M' ∧ d.val = .p q) (hl : ps.length ≤ lim) :
    eLc t vs fi ifs el σ M = .ok (.nw (ps.filterMap f)) M := by
  unfold eLc
  rw [hi]
  dsimp only [Out.bind]
  rw [hv]
  have := lcL_pure (M := M) (acc := []) h (by simpa using hl)
  simpa using this
/-- without a test -/
theorem eLc_map {t : Tg} {vs : List Nat} {fi : EvI} {el : EvD} {σ : Fr} {M : Sto} {ps : List P} (f : P → P) (hi : fi σ M = .ok ps M) (hv : ((tgS t).all fun i => vs.contains i) = true)
    (h : ∀ p ∈ ps, ∃ σ1, tgA t p (wipeF σ vs) = some σ1 ∧ ∀ M', ∃ d, el σ1 M' = .ok d M' ∧ d.val = .p (f p)) (hl : ps.length ≤ lim) :
    eLc t vs fi bYes el σ M = .ok (.nw (ps.map f)) M := by
  rw [eLc_pure (fun p => some (f p)) hi hv (fun p hp => ?_) hl]
  · simp
  · obtain ⟨σ1, e1, e2⟩ := h p hp
    refine ⟨σ1, e1, fun M' => ⟨rfl, fun q hq => ?_⟩⟩
    cases hq
    exact e2 M'
theorem intsOf_map (ns : List Int) : intsOf (ns.map P.int) = some ns := by
  induction ns with
  | nil => rfl
  | cons n r ih => simp [intsOf, ih]
theorem blsOf_map (ns : List Bool) : blsOf (ns.map P.bl) = some ns := by
  induction ns with
  | nil => rfl
  | cons n r ih => simp [blsOf, ih]
theorem strsOf_map (ns : List Str) : strsOf (ns.map P.str) = some ns := by
  induction ns with
  | nil => rfl
  | cons n r ih => simp [strsOf, ih]
@[simp] theorem cSum_map (ns : List Int) : cSum [.lst (ns.map P.int)] = some (.p (.int ns.sum)) := by
  simp [cSum, intsOf_map]
@[simp] theorem cAll_map (ns : List Bool) : cAll [.lst (ns.map P.bl)] = some (.p (.bl (ns.all id))) := by
  simp [cAll, blsOf_map]
end Ev

set_option Elab.async false
set_option linter.all false
set_option maxRecDepth 100000
set_option maxHeartbeats 4000000
/-! Core16: equality of plain data; further chain lemmas. -/
namespace Ev
open PySem PySem.Spec PyProof.Rows L2
mutual
def pd : P → PyData
  | .non => .none
  | .bl b => .bool b
  | .int i => .int i
  | .str s => .str s
  | .tup ps => .tuple (pdL ps)
  | .lst ps => .list (pdL ps)
  | .fn _ => .none
  | .scr _ => .none
  | .adr _ => .none
def pdL : List P → List PyData
  | [] => []
  | p :: ps => pd p :: pdL ps
end
def sOk (s : Str) : Bool := s.cps.toList.all fun c => decide (c < 0x110000)
mutual
/-- data of depth at most n -/
def datB : P → Nat → Bool
  | .non, _ => true
  | .bl _, _ => true
  | .int _, _ => true
  | .str s, _ => sOk s
  | .tup ps, n => decide (0 < n) && datLB ps (n - 1)
  | .lst ps, n => decide (0 < n) && datLB ps (n - 1)
  | .fn _, _ => false
  | .scr _, _ => false
  | .adr _, _ => false
def datLB : List P → Nat → Bool
  | [], _ => true
  | p :: ps, n => datB p n && datLB ps n
end
theorem sOk_str {s : Str} (h : sOk s = true) : PySem.PyData.strOk s = true := by
  unfold sOk at h
  unfold PySem.PyData.strOk
  rw [← Array.all_toList]
  exact h
mutual
theorem dat_to : ∀ {p : P} {n : Nat}, datB p n = true → toPy p = some (pd p) ∧ PyData.canLay0 (pd p) = true ∧ PyData.depth (pd p) ≤ n + 1
  | .non, n, _ => ⟨by rw [toPy, pd], by rw [pd, PyData.canLay0], by rw [pd, PyData.depth] <;> first | omega | simp⟩
  | .bl _, n, _ => ⟨by rw [toPy, pd], by rw [pd, PyData.canLay0], by rw [pd, PyData.depth] <;> first | omega | simp⟩
  | .int _, n, _ => ⟨by rw [toPy, pd], by rw [pd, PyData.canLay0], by rw [pd, PyData.depth] <;> first | omega | simp⟩
  | .str _, n, h => ⟨by rw [toPy, pd], by rw [pd, PyData.canLay0]; rw [datB] at h; exact sOk_str h, by rw [pd, PyData.depth] <;> first | omega | simp⟩
  | .tup ps, n, h => by
    rw [datB, Bool.and_eq_true, decide_eq_true_eq] at h
    obtain ⟨a, b, c⟩ := datL_to h.2
    refine ⟨by rw [toPy, a, pd]; rfl, by rw [pd, PyData.canLay0]; exact b, ?_⟩
    rw [pd, PyData.depth]
    omega
  | .lst ps, n, h => by
    rw [datB, Bool.and_eq_true, decide_eq_true_eq] at h
    obtain ⟨a, b, c⟩ := datL_to h.2
    refine ⟨by rw [toPy, a, pd]; rfl, by rw [pd, PyData.canLay0]; exact b, ?_⟩
    rw [pd, PyData.depth]
    omega
  | .fn _, n, h => by rw [datB] at h; cases h
  | .scr _, n, h => by rw [datB] at h; cases h
  | .adr _, n, h => by rw [datB] at h; cases h
theorem datL_to : ∀ {ps : List P} {n : Nat}, datLB ps n = true → toPyL ps = some (pdL ps) ∧ PyData.canLayAll0 (pdL ps) = true ∧ PyData.depthAll (pdL ps) ≤ n + 1
  | [], n, _ => ⟨by rw [toPyL, pdL], by rw [pdL, PyData.canLayAll0], by rw [pdL, PyData.depthAll]; omega⟩
  | p :: ps, n, h => by
    rw [datLB, Bool.and_eq_true] at h
    obtain ⟨a, b, c⟩ := dat_to h.1
    obtain ⟨a', b', c'⟩ := datL_to h.2
    refine ⟨by rw [toPyL, a, a', pdL], by rw [pdL, PyData.canLayAll0, b, b']; rfl, ?_⟩
    rw [pdL, PyData.depthAll]
    omega
end
/-- equality as Python has it -/
def peq (p q : P) : Bool := PyData.eqv (pd p) (pd q)
def peqL (p q : List P) : Bool := PyData.eqvAll (pdL p) (pdL q)
theorem eqB_dat {p q : P} (hp : datB p 60 = true) (hq : datB q 60 = true) : eqB p q = some (peq p q) := by
  obtain ⟨a1, a2, a3⟩ := dat_to hp
  obtain ⟨b1, b2, b3⟩ := dat_to hq
  have s1 : SeqAt.shaped (pd p) = true := by
    unfold SeqAt.shaped
    rw [a2, Bool.true_and, decide_eq_true_eq]
    omega
  have s2 : SeqAt.shaped (pd q) = true := by
    unfold SeqAt.shaped
    rw [b2, Bool.true_and, decide_eq_true_eq]
    omega
  unfold eqB
  split
  · simp only [peq, pd, PyData.eqv]
    rename_i i j
    by_cases z : i = j <;> simp [z]
  · simp only [peq, pd, PyData.eqv]
    rename_i i j
    by_cases z : i = j <;> simp [z]
  · rw [a1, b1]
    dsimp only
    rw [s1, s2]
    rfl
theorem oEq_dat {p q : P} (hp : datB p 60 = true) (hq : datB q 60 = true) : oEq p q = some (.p (.bl (peq p q))) := by
  unfold oEq
  rw [eqB_dat hp hq]; rfl
theorem oNe_dat {p q : P} (hp : datB p 60 = true) (hq : datB q 60 = true) : oNe p q = some (.p (.bl (!peq p q))) := by
  unfold oNe
  rw [eqB_dat hp hq]; rfl
mutual
theorem peq_refl_ : ∀ {p : P} {n : Nat}, datB p n = true → peq p p = true
  | .non, n, _ => by simp only [peq, pd, PyData.eqv]
  | .bl _, n, _ => by simp only [peq, pd, PyData.eqv, beq_self_eq_true]
  | .int _, n, _ => by simp only [peq, pd, PyData.eqv, beq_self_eq_true]
  | .str _, n, h => by simp only [peq, pd, PyData.eqv, beq_self_eq_true]
  | .tup ps, n, h => by
    rw [datB, Bool.and_eq_true] at h
    have := peqL_refl_ h.2
    simpa only [peq, peqL, pd, PyData.eqv] using this
  | .lst ps, n, h => by
    rw [datB, Bool.and_eq_true] at h
    have := peqL_refl_ h.2
    simpa only [peq, peqL, pd, PyData.eqv] using this
  | .fn _, n, h => by rw [datB] at h; cases h
  | .scr _, n, h => by rw [datB] at h; cases h
  | .adr _, n, h => by rw [datB] at h; cases h
theorem peqL_refl_ : ∀ {ps : List P} {n : Nat}, datLB ps n = true → peqL ps ps = true
  | [], n, _ => by simp only [peqL, pdL, PyData.eqvAll]
  | p :: ps, n, h => by
    rw [datLB, Bool.and_eq_true] at h
    have a := peq_refl_ h.1
    have b := peqL_refl_ h.2
    unfold peqL at b ⊢
    unfold peq at a
    rw [pdL, PyData.eqvAll, a, b]; rfl
end
theorem oEq_refl {p : P} (hp : datB p 60 = true) : oEq p p = some (.p (.bl true)) := by rw [oEq_dat hp hp, peq_refl_ hp]
theorem oNe_refl {p : P} (hp : datB p 60 = true) : oNe p p = some (.p (.bl false)) := by rw [oNe_dat hp hp, peq_refl_ hp]; rfl
/-! further chain lemmas -/
theorem tup_ok {fs : EvA} {σ : Fr} {M M1 : Sto} {ds : List D} {ps : List P} (h : fs σ M = .ok ds M1) (h2 : allP ds = some ps) (h3 : ps.length ≤ lim) : eTup fs σ M = .ok (.p (.tup ps)) M1 := by
  rw [x_eTup, h]
  show (match allP ds with
    | some ps => if ps.length ≤ lim then Out.ok (D.p (.tup ps)) M1 else .no
    | none => .no) = _
  rw [h2]
  show (if ps.length ≤ lim then Out.ok (D.p (.tup ps)) M1 else .no) = _
  rw [if_pos h3]
theorem lst_ok {fs : EvA} {σ : Fr} {M M1 : Sto} {ds : List D} {ps : List P} (h : fs σ M = .ok ds M1) (h2 : allP ds = some ps) (h3 : ps.length ≤ lim) : eLst fs σ M = .ok (.nw ps) M1 := by
  rw [x_eLst, h]
  show (match allP ds with
    | some ps => if ps.length ≤ lim then Out.ok (D.nw ps) M1 else .no
    | none => .no) = _
  rw [h2]
  show (if ps.length ≤ lim then Out.ok (D.nw ps) M1 else .no) = _
  rw [if_pos h3]
theorem and_t {fa fb : EvD} {σ : Fr} {M M1 M2 : Sto} {d : D} (h : fa σ M = .ok (.p (.bl true)) M1) (h2 : fb σ M1 = .ok d M2) : eAnd fa fb σ M = .ok d M2 := by
  rw [x_eAnd, h]
  show fb σ M1 = _
  rw [h2]
theorem and_f {fa fb : EvD} {σ : Fr} {M M1 : Sto} (h : fa σ M = .ok (.p (.bl false)) M1) : eAnd fa fb σ M = .ok (.p (.bl false)) M1 := by
  rw [x_eAnd, h]; rfl
theorem or_t {fa fb : EvD} {σ : Fr} {M M1 : Sto} (h : fa σ M = .ok (.p (.bl true)) M1) : eOr fa fb σ M = .ok (.p (.bl true)) M1 := by
  rw [x_eOr, h]; rfl
theorem or_f {fa fb : EvD} {σ : Fr} {M M1 M2 : Sto} {d : D} (h : fa σ M = .ok (.p (.bl false)) M1) (h2 : fb σ M1 = .ok d M2) : eOr fa fb σ M = .ok d M2 := by
  rw [x_eOr, h]
  show fb σ M1 = _
  rw [h2]
theorem ife_t {c : EvB} {fa fb : EvD} {σ : Fr} {M M1 : Sto} (h : c σ M = .ok true M1) : eIf c fa fb σ M = fa σ M1 := by rw [x_eIf, h]; rfl
theorem ife_f {c : EvB} {fa fb : EvD} {σ : Fr} {M M1 : Sto} (h : c σ M = .ok false M1) : eIf c fa fb σ M = fb σ M1 := by rw [x_eIf, h]; rfl
theorem bof_ok {f : EvD} {σ : Fr} {M M1 : Sto} {b : Bool} (h : f σ M = .ok (.p (.bl b)) M1) : bOf f σ M = .ok b M1 := by rw [x_bOf, h]; rfl
theorem btru_ok {f : EvD} {σ : Fr} {M M1 : Sto} {d : D} {p : P} {b : Bool} (h : f σ M = .ok d M1) (h2 : d.get M1 = some p) (h3 : p.tru = some b) : bTru f σ M = .ok b M1 := by
  rw [x_bTru, h]
  show (match d.get M1 with
    | some p => (match p.tru with
      | some b => Out.ok b M1
      | none => .no)
    | none => .no) = _
  rw [h2]
  show (match p.tru with
      | some b => Out.ok b M1
      | none => .no) = _
  rw [h3]
theorem bnot_ok {c : EvB} {σ : Fr} {M M1 : Sto} {b : Bool} (h : c σ M = .ok b M1) : bNot c σ M = .ok (!b) M1 := by rw [x_bNot, h]; rfl
theorem band_t {c k : EvB} {σ : Fr} {M M1 : Sto} (h : c σ M = .ok true M1) : bAnd c k σ M = k σ M1 := by rw [x_bAnd, h]; rfl
theorem band_f {c k : EvB} {σ : Fr} {M M1 : Sto} (h : c σ M = .ok false M1) : bAnd c k σ M = .ok false M1 := by rw [x_bAnd, h]; rfl
theorem bor_t {c k : EvB} {σ : Fr} {M M1 : Sto} (h : c σ M = .ok true M1) : bOr c k σ M = .ok true M1 := by rw [x_bOr, h]; rfl
theorem bor_f {c k : EvB} {σ : Fr} {M M1 : Sto} (h : c σ M = .ok false M1) : bOr c k σ M = k σ M1 := by rw [x_bOr, h]; rfl
theorem not_ok {f : EvD} {σ : Fr} {M M1 : Sto} {d : D} {p : P} {b : Bool} (h : f σ M = .ok d M1) (h2 : d.get M1 = some p) (h3 : p.tru = some b) : eNot f σ M = .ok (.p (.bl (!b))) M1 := by
  rw [x_eNot, btru_ok h h2 h3]; rfl
theorem par_ok {ids : List Nat} {fs : EvA} {σ : Fr} {M M1 : Sto} {ds : List D} (h : fs σ M = .ok ds M1) (hn : ds.length = ids.length) : sPar ids fs σ M = .ok (.nx ((ids.zip ds).foldl (fun σ x => σ.set x.1 (some x.2)) σ)) M1 := by
  rw [x_sPar, h]
  show (if ds.length = ids.length then _ else OutS.no) = _
  rw [if_pos hn]
end Ev

set_option Elab.async false
set_option linter.all false
set_option maxRecDepth 100000
set_option maxHeartbeats 4000000
/-! Core24: the words of errors. -/
namespace Ev
open PySem PySem.Spec PyProof.Rows L2
def wdL : List (Str × Str) := [("InvalidMachine", "machine value"), ("InvalidStanding", "standing value"), ("InvalidLine", "line value"), ("InvalidNumber", "number value"), ("InvalidIndex", "index value"), ("InvalidPlace", "place value"), ("InvalidColour", "colour value"), ("InvalidWish", "wish value"), ("InvalidSeen", "seen value"), ("InvalidSign", "sign value"), ("InvalidText", "text value"), ("Unlike", "unlike value"), ("NothingToUndo", "undo value")]
def wdT (c : Str) : Option Str := assoc c wdL
abbrev isE (a0 : Addr) (x c : Str) : EvD := eIsE 0 a0 (decide (x = c))
def b__law_names (a0 : Addr) (c : Str) : EvS :=
  sSeq (sSetM 1 (eLst (aCons (isE a0 "InvalidMachine" c) (aCons (isE a0 "InvalidStanding" c) (aCons (isE a0 "InvalidLine" c) aNil)))))
  (sSeq (sSetM 1 (eBin oAdd (eVar 1) (eLst (aCons (isE a0 "InvalidNumber" c) (aCons (isE a0 "InvalidIndex" c) (aCons (isE a0 "InvalidPlace" c) aNil))))))
  (sSeq (sSetM 1 (eBin oAdd (eVar 1) (eLst (aCons (isE a0 "InvalidColour" c) (aCons (isE a0 "InvalidWish" c) (aCons (isE a0 "InvalidSeen" c) aNil))))))
  (sSeq (sSetM 1 (eBin oAdd (eVar 1) (eLst (aCons (isE a0 "InvalidSign" c) (aCons (isE a0 "InvalidText" c) (aCons (isE a0 "Unlike" c) aNil))))))
  (sSeq (sSetM 1 (eBin oAdd (eVar 1) (eLst (aCons (isE a0 "NothingToUndo" c) (aCons (isE a0 "TooMany" c) (aCons (isE a0 "Failed" c) aNil))))))
  (sSeq (sExpr (eLm appK (eVar 1) (aCons (eIsE 0 a0 true) aNil)))
  (sSeq (sSet 2 (eC (.str "machine standing line number index place colour wish seen sign text unlike undo many failed value")))
  (sSeq (sRet (eMt "str" mJoin (eC (.str " ")) (aCons (eSel 3 4 (aCons (eMt "str" mSplit (eVar 2) (aCons (eC (.str " ")) aNil)) (aCons (eVar 1) aNil))) aNil)))
  sNil)))))))
def namesN : List Str := ["error", "some", "labels", "label", "good"]
theorem isE_ok {a0 : Addr} {b : Bool} {σ : Fr} {M : Sto} (h : σ[0]? = some (some (.p (.adr a0)))) : eIsE 0 a0 b σ M = .ok (.p (.bl b)) M := by
  unfold eIsE
  rw [h]
  exact if_pos rfl
theorem three_ok {a0 : Addr} {b1 b2 b3 : Bool} {σ : Fr} {M : Sto} (h : σ[0]? = some (some (.p (.adr a0)))) : eLst (aCons (eIsE 0 a0 b1) (aCons (eIsE 0 a0 b2) (aCons (eIsE 0 a0 b3) aNil))) σ M = .ok (.nw [.bl b1, .bl b2, .bl b3]) M :=
  lst_ok (ds := [.p (.bl b1), .p (.bl b2), .p (.bl b3)]) (cons_ok (isE_ok h) (cons_ok (isE_ok h) (cons_ok (isE_ok h) nil_ok))) rfl (show (3 : Nat) ≤ lim by decide +kernel)
theorem st_get' {M : Sto} {x : MO} : (M ++ [x])[M.length]? = some x := by simp
theorem more_ok {a0 : Addr} {b1 b2 b3 : Bool} {σ : Fr} {M : Sto} {ps : List P} (h : σ[0]? = some (some (.p (.adr a0)))) (h1 : σ[1]? = some (some (.loc M.length))) (hl : ps.length ≤ 100) :
    eBin oAdd (eVar 1) (eLst (aCons (eIsE 0 a0 b1) (aCons (eIsE 0 a0 b2) (aCons (eIsE 0 a0 b3) aNil)))) σ (M ++ [.lst ps]) = .ok (.nw (ps ++ [.bl b1, .bl b2, .bl b3])) (M ++ [.lst ps]) := by
  refine bin_ok (d1 := .loc M.length) (d2 := .nw [.bl b1, .bl b2, .bl b3]) (M1 := M ++ [.lst ps]) (by rw [x_eVar, h1]) (three_ok h) (p := .lst ps) (by rw [x_getl, st_get']) rfl ?_
  show (if ps.length + 3 ≤ lim then _ else _) = _
  rw [if_pos]
  have : 1000 ≤ lim := by decide +kernel
  omega
def wordBools (c : Str) : List Bool := errT.map (fun x => decide (x = c)) ++ [true]
def labelsP : List P := (["machine", "standing", "line", "number", "index", "place", "colour", "wish", "seen", "sign", "text", "unlike", "undo", "many", "failed", "value"] : List Str).map P.str
theorem labels_ok : mSplit (.str "machine standing line number index place colour wish seen sign text unlike undo many failed value") [.str " "] = some (.nw labelsP) := by kernel_rfl
theorem join_w {c z : Str} (h : wdT c = some z) : mJoin (.str " ") [.lst (selZ labelsP (wordBools c))] = some (.p (.str z)) := by
  have h := assoc_ok h
  simp only [wdL, List.mem_cons, List.not_mem_nil, or_false, Prod.mk.injEq] at h
  rcases h with ⟨rfl, rfl⟩ | ⟨rfl, rfl⟩ | ⟨rfl, rfl⟩ | ⟨rfl, rfl⟩ | ⟨rfl, rfl⟩ | ⟨rfl, rfl⟩ | ⟨rfl, rfl⟩ | ⟨rfl, rfl⟩ | ⟨rfl, rfl⟩ | ⟨rfl, rfl⟩ | ⟨rfl, rfl⟩ | ⟨rfl, rfl⟩ | ⟨rfl, rfl⟩ <;> kernel_rfl
theorem setM_ok' {i : Nat} {f : EvD} {σ : Fr} {M M1 : Sto} {ps : List P} (h : f σ M = .ok (.nw ps) M1) : sSetM i f σ M = .ok (.nx (σ.set i (some (.loc M1.length)))) (M1 ++ [.lst ps]) := by
  unfold sSetM
  rw [h]
  rfl
theorem app_ok' {i : Nat} {fs : EvA} {σ : Fr} {M : Sto} {ps : List P} {q : P} (h1 : σ[i]? = some (some (.loc M.length))) (h2 : fs σ (M ++ [.lst ps]) = .ok [.p q] (M ++ [.lst ps])) (h3 : ps.length < lim) :
    sExpr (eLm appK (eVar i) fs) σ (M ++ [.lst ps]) = .ok (.nx σ) (M ++ [.lst (ps ++ [q])]) := by
  refine exp_ok (d := .p .non) ?_
  unfold eLm
  simp only [x_eVar, h1, Out.bind, st_get']
  rw [h2]
  have : (M ++ [MO.lst ps]).set M.length (.lst (ps ++ [q])) = M ++ [.lst (ps ++ [q])] := by
    rw [List.set_append_right _ _ (Nat.le_refl _), Nat.sub_self]; rfl
  simp only [appK, st_get', if_pos h3, this]
theorem mt_ok {T : String} {o : P → List P → Option D} {fa : EvD} {fs : EvA} {σ : Fr} {M M1 M2 : Sto} {d r : D} {p p' : P} {ds : List D} {ps : List P} (h1 : fa σ M = .ok d M1) (h2 : d.get M1 = some p') (h3 : isTy T p' = true) (h4 : fs σ M1 = .ok ds M2) (h7 : d.get M2 = some p) (h5 : getL M2 ds = some ps) (h6 : o p ps = some r) : eMt T o fa fs σ M = .ok r M2 := by
  unfold eMt
  rw [h1]
  show (match d.get M1 with
  | some p0 => if isTy T p0 then (fs σ M1).bind fun ds M2 => (match d.get M2, getL M2 ds with
      | some p, some ps => (match o p ps with
        | some r => Out.ok r M2
        | none => .no)
      | _, _ => .no) else .no
  | none => .no) = _
  rw [h2]
  dsimp only
  rw [if_pos h3, h4]
  show (match d.get M2, getL M2 ds with
      | some p, some ps => (match o p ps with
        | some r => Out.ok r M2
        | none => .no)
      | _, _ => .no) = _
  rw [h7, h5]
  dsimp only
  rw [h6]
theorem blsOf_map' (ns : List Bool) : blsOf (ns.map P.bl) = some ns := blsOf_map ns
theorem names_eval {a0 : Addr} {c z : Str} {M : Sto} (h : wdT c = some z) : fnB namesN.length (b__law_names a0 c) [.p (.adr a0)] M = .ok (.p (.str z)) M := by
  have l1000 : 1000 ≤ lim := by decide +kernel
  show leave M.length (b__law_names a0 c [some (.p (.adr a0)), none, none, none, none] M) = _
  generalize hb1 : decide (("InvalidMachine" : Str) = c) = b1
  generalize hb2 : decide (("InvalidStanding" : Str) = c) = b2
  generalize hb3 : decide (("InvalidLine" : Str) = c) = b3
  generalize hb4 : decide (("InvalidNumber" : Str) = c) = b4
  generalize hb5 : decide (("InvalidIndex" : Str) = c) = b5
  generalize hb6 : decide (("InvalidPlace" : Str) = c) = b6
  generalize hb7 : decide (("InvalidColour" : Str) = c) = b7
  generalize hb8 : decide (("InvalidWish" : Str) = c) = b8
  generalize hb9 : decide (("InvalidSeen" : Str) = c) = b9
  generalize hb10 : decide (("InvalidSign" : Str) = c) = b10
  generalize hb11 : decide (("InvalidText" : Str) = c) = b11
  generalize hb12 : decide (("Unlike" : Str) = c) = b12
  generalize hb13 : decide (("NothingToUndo" : Str) = c) = b13
  generalize hb14 : decide (("TooMany" : Str) = c) = b14
  generalize hb15 : decide (("Failed" : Str) = c) = b15
  have hw : wordBools c = [b1, b2, b3, b4, b5, b6, b7, b8, b9, b10, b11, b12, b13, b14, b15, true] := by
    subst hb1 hb2 hb3 hb4 hb5 hb6 hb7 hb8 hb9 hb10 hb11 hb12 hb13 hb14 hb15
    rfl
  have hj := join_w h
  rw [hw] at hj
  let L1 : List P := [.bl b1, .bl b2, .bl b3]
  let L2 : List P := L1 ++ [.bl b4, .bl b5, .bl b6]
  let L3 : List P := L2 ++ [.bl b7, .bl b8, .bl b9]
  let L4 : List P := L3 ++ [.bl b10, .bl b11, .bl b12]
  let L5 : List P := L4 ++ [.bl b13, .bl b14, .bl b15]
  let M1 : Sto := M ++ [.lst L1]
  let M2 : Sto := M1 ++ [.lst L2]
  let M3 : Sto := M2 ++ [.lst L3]
  let M4 : Sto := M3 ++ [.lst L4]
  let M5 : Sto := M4 ++ [.lst (L5 ++ [.bl true])]
  have key : b__law_names a0 c [some (.p (.adr a0)), none, none, none, none] M = .ok (.rt (.p (.str z))) M5 := by
    unfold b__law_names isE
    rw [hb1, hb2, hb3, hb4, hb5, hb6, hb7, hb8, hb9, hb10, hb11, hb12, hb13, hb14, hb15]
    refine Eq.trans (seq_ok (setM_ok' (M1 := M) (ps := L1) (three_ok rfl))) ?_
    refine Eq.trans (seq_ok (setM_ok' (M1 := M1) (ps := L2) (more_ok rfl rfl (by show (3 : Nat) ≤ 100; decide)))) ?_
    refine Eq.trans (seq_ok (setM_ok' (M1 := M2) (ps := L3) (more_ok rfl rfl (by show (6 : Nat) ≤ 100; decide)))) ?_
    refine Eq.trans (seq_ok (setM_ok' (M1 := M3) (ps := L4) (more_ok rfl rfl (by show (9 : Nat) ≤ 100; decide)))) ?_
    refine Eq.trans (seq_ok (setM_ok' (M1 := M4) (ps := L5) (more_ok rfl rfl (by show (12 : Nat) ≤ 100; decide)))) ?_
    refine Eq.trans (seq_ok (app_ok' (M := M4) (ps := L5) (q := .bl true) rfl (cons_ok (d := .p (.bl true)) (isE_ok rfl) nil_ok) (Nat.lt_of_lt_of_le (show (15 : Nat) < 1000 by decide) l1000))) ?_
    refine Eq.trans (seq_ok (set_ok (M1 := M5) (d := .p (.str "machine standing line number index place colour wish seen sign text unlike undo many failed value")) rfl)) ?_
    refine seq_rt (ret_ok (mt_ok (d := .p (.str " ")) (p := .str " ") (p' := .str " ") (M1 := M5) (ds := [.p (.lst (selZ labelsP [b1, b2, b3, b4, b5, b6, b7, b8, b9, b10, b11, b12, b13, b14, b15, true]))]) (ps := [.lst (selZ labelsP [b1, b2, b3, b4, b5, b6, b7, b8, b9, b10, b11, b12, b13, b14, b15, true])]) rfl rfl rfl ?_ rfl rfl hj))
    refine cons_ok (d := .nw (selZ labelsP [b1, b2, b3, b4, b5, b6, b7, b8, b9, b10, b11, b12, b13, b14, b15, true])) (M1 := M5) ?_ nil_ok
    have ea : aCons (eMt "str" mSplit (eVar 2) (aCons (eC (.str " ")) aNil)) (aCons (eVar 1) aNil) [some (.p (.adr a0)), some (.loc M4.length), some (.p (.str "machine standing line number index place colour wish seen sign text unlike undo many failed value")), none, none] M5 = .ok [.p (.lst labelsP), .loc M4.length] M5 := by
      refine cons_ok (d := .nw labelsP) (M1 := M5) ?_ (cons_ok (d := .loc M4.length) (M1 := M5) rfl nil_ok)
      exact mt_ok (d := .p (.str "machine standing line number index place colour wish seen sign text unlike undo many failed value")) (ds := [.p (.str " ")]) (ps := [.str " "]) (M1 := M5) rfl rfl rfl rfl rfl rfl labels_ok
    show eSel 3 4 _ [some (.p (.adr a0)), some (.loc M4.length), some (.p (.str "machine standing line number index place colour wish seen sign text unlike undo many failed value")), none, none] M5 = _
    unfold eSel
    rw [ea]
    have eg : D.get M5 (.loc M4.length) = some (.lst ([b1, b2, b3, b4, b5, b6, b7, b8, b9, b10, b11, b12, b13, b14, b15, true].map P.bl)) := by
      rw [x_getl, st_get']
      rfl
    show (match D.get M5 (.loc M4.length) with
      | some (.lst qs) => (match blsOf qs with
        | some bs => if labelsP.length = bs.length ∧ labelsP.length ≤ lim ∧ 3 < 5 ∧ 4 < 5 ∧ 3 ≠ 4 then (Out.ok (D.nw (selZ labelsP bs)) M5 : Out D) else .no
        | none => .no)
      | _ => .no) = _
    rw [eg]
    dsimp only
    rw [blsOf_map]
    dsimp only
    rw [if_pos]
    refine ⟨by kernel_rfl, Nat.le_trans (show labelsP.length ≤ 1000 by decide +kernel) l1000, by decide, by decide, by decide⟩
  rw [key, x_lv_p]
  have : M5.take M.length = M := by
    show ((((( M ++ _) ++ _) ++ _) ++ _) ++ _).take M.length = M
    simp only [List.append_assoc]
    exact List.take_left
  rw [this]
/-! ### the text of _law_word -/
def posF (l : List Pos) (d : Pos) : Nat → Pos := fun i => l.getD i d
def isWB : List Stmt → Option (Str × Str)
  | [.Try [.Expr (.Call (.Name a _) [] [] _) _] [.ExceptHandler (some (.Name r _)) (some n) [.Return (some (.Call (.Name m _) [.Name n2 _] [] _)) _] _] [] [] _, .Return (some (.Constant (.str s) _ _)) _] => if r = "RibbonError" ∧ m = "_law_names" ∧ n2 = n ∧ s = "" then some (a, n) else none
  | _ => none
theorem isWB_ok {body : List Stmt} {a n : Str} (h : isWB body = some (a, n)) : ∃ p j, body = wordBody a n p j := by
  unfold isWB at h
  split at h
  · rename_i a' p0 p1 p2 r p3 n' m p4 n2 p5 p6 p7 p8 p9 s j p10 p11
    split at h
    · rename_i hh
      obtain ⟨rfl, rfl, rfl, rfl⟩ := hh
      cases h
      exact ⟨posF [p0, p1, p2, p3, p4, p5, p6, p7, p8, p9, p10, p11] p0, j, rfl⟩
    · cases h
  · cases h
end Ev

set_option Elab.async false
set_option linter.all false
set_option maxRecDepth 100000
set_option maxHeartbeats 4000000
/-! Core25: lemmas of the evaluating tactic. -/
namespace Ev
open PySem
section
variable {σ σ1 : Fr} {M M1 M2 M3 : Sto} {f fa fb : EvD} {c k : EvB} {r : Out D} {rb : Out Bool} {rs : OutS} {s1 s2 : EvS} {d d1 v : D} {i : Nat} {p q : P}
theorem var_ok (h : σ[i]? = some (some d)) : eVar i σ M = .ok d M := by rw [x_eVar, h]
theorem cst_ok : eC p σ M = .ok (.p p) M := rfl
theorem cons_v {g : EvA} {ds : List D} (h : f σ M = .ok d M1) (hv : d.val = v) (h2 : g σ M1 = .ok ds M2) : aCons f g σ M = .ok (v :: ds) M2 := by rw [← hv]; exact cons_ok h h2
theorem set_v (h : f σ M = .ok d M1) (hv : d.val = v) : sSet i f σ M = .ok (.nx (σ.set i (some v))) M1 := by rw [← hv]; exact set_ok h
theorem seq_nx (h : s1 σ M = .ok (.nx σ1) M1) (h2 : s2 σ1 M1 = rs) : sSeq s1 s2 σ M = rs := by rw [x_sSeq, h]; exact h2
theorem nil_s : sNil σ M = .ok (.nx σ) M := rfl
theorem if_tt (h : c σ M = .ok true M1) (h2 : s1 σ M1 = rs) : sIf c s1 s2 σ M = rs := by rw [if_t h]; exact h2
theorem if_ff (h : c σ M = .ok false M1) (h2 : s2 σ M1 = rs) : sIf c s1 s2 σ M = rs := by rw [if_f h]; exact h2
theorem ife_tt (h : c σ M = .ok true M1) (h2 : fa σ M1 = r) : eIf c fa fb σ M = r := by rw [ife_t h]; exact h2
theorem ife_ff (h : c σ M = .ok false M1) (h2 : fb σ M1 = r) : eIf c fa fb σ M = r := by rw [ife_f h]; exact h2
theorem bnot_t (h : c σ M = .ok false M1) : bNot c σ M = .ok true M1 := bnot_ok h
theorem bnot_f (h : c σ M = .ok true M1) : bNot c σ M = .ok false M1 := bnot_ok h
theorem band_tt (h : c σ M = .ok true M1) (h2 : k σ M1 = rb) : bAnd c k σ M = rb := by rw [band_t h]; exact h2
theorem bor_ff (h : c σ M = .ok false M1) (h2 : k σ M1 = rb) : bOr c k σ M = rb := by rw [bor_f h]; exact h2
theorem and_tt (h : fa σ M = .ok d M1) (h1 : d.get M1 = some p) (h2 : p.tru = some true) (h3 : fb σ M1 = r) : eAnd fa fb σ M = r := by
  rw [x_eAnd, h]
  show (match d.get M1 with
    | some p => _
    | none => _) = _
  rw [h1]
  dsimp only
  rw [h2]
  exact h3
theorem and_ff (h : fa σ M = .ok d M1) (h1 : d.get M1 = some p) (h2 : p.tru = some false) (hv : d.val = v) : eAnd fa fb σ M = .ok v M1 := by
  rw [← hv]
  rw [x_eAnd, h]
  show (match d.get M1 with
    | some p => _
    | none => _) = _
  rw [h1]
  dsimp only
  rw [h2]
theorem neg_ok {j : Int} (h : f σ M = .ok (.p (.int j)) M1) : eNeg f σ M = .ok (.p (.int (-j))) M1 := by rw [x_eNeg, h]; rfl
theorem not_t (h : f σ M = .ok d M1) (h2 : d.get M1 = some p) (h3 : p.tru = some false) : eNot f σ M = .ok (.p (.bl true)) M1 := not_ok h h2 h3
theorem not_f (h : f σ M = .ok d M1) (h2 : d.get M1 = some p) (h3 : p.tru = some true) : eNot f σ M = .ok (.p (.bl false)) M1 := not_ok h h2 h3
theorem isi_ok {T t : String} {b : Bool} (h : f σ M = .ok d M1) (h1 : d.get M1 = some p) (h2 : p.ty = some t) (h3 : isiB t T = b) : eIsi T f σ M = .ok (.p (.bl b)) M1 := by
  rw [x_eIsi, h]
  show (match d.get M1 with
    | some p => _
    | none => _) = _
  rw [h1]
  dsimp only
  rw [h2]
  dsimp only
  rw [h3]
theorem chain_t {o o' : P → P → Option D} {fc : EvD} {d3 e : D} {p1 p2 p3 : P} (h1 : fa σ M = .ok d1 M1) (h2 : fb σ M1 = .ok (.p p2) M2) (g1 : d1.get M2 = some p1) (e1 : o p1 p2 = some (.p (.bl true)))
    (h3 : fc σ M2 = .ok d3 M3) (g4 : d3.get M3 = some p3) (e2 : o' p2 p3 = some e) : eChain o o' fa fb fc σ M = .ok e M3 := by
  rw [x_eChain, h1]
  show (fb σ M1).bind _ = _
  rw [h2]
  show (op2 o d1 (.p p2) M2).bind _ = _
  rw [x_op2, g1, x_get]
  dsimp only
  rw [e1]
  show (fc σ M2).bind _ = _
  rw [h3]
  show op2 o' (.p p2) d3 M3 = _
  rw [x_op2, x_get, g4]
  dsimp only
  rw [e2]
theorem chain_f {o o' : P → P → Option D} {fc : EvD} {d2 : D} {p1 p2 : P} (h1 : fa σ M = .ok d1 M1) (h2 : fb σ M1 = .ok d2 M2) (g1 : d1.get M2 = some p1) (g2 : d2.get M2 = some p2) (e1 : o p1 p2 = some (.p (.bl false))) : eChain o o' fa fb fc σ M = .ok (.p (.bl false)) M2 := by
  rw [x_eChain, h1]
  show (fb σ M1).bind _ = _
  rw [h2]
  show (op2 o d1 d2 M2).bind _ = _
  rw [x_op2, g1, g2]
  dsimp only
  rw [e1]
  rfl
/-! errors -/
theorem raise_ok {x : Str} : sRaise x σ M = .er x none σ M := rfl
theorem seq_er {x : Str} {n : Option Int} (h : s1 σ M = .er x n σ1 M1) : sSeq s1 s2 σ M = .er x n σ1 M1 := by rw [x_sSeq, h]
theorem exp_er {x : Str} {n : Option Int} (h : f σ M = .er x n M1) : sExpr f σ M = .er x n σ M1 := by rw [x_sExpr, h]; rfl
theorem call_er {n : Nat} {F : Fn} {fs : EvA} {ds : List D} {x : Str} {y : Option Int} (h : fs σ M = .ok ds M1) (hn : ds.length = n) (h2 : F ds M1 = .er x y M2) : eCall n F fs σ M = .er x y M2 := by
  rw [x_eCall, h]
  show (if ds.length = n then F ds M1 else .no) = _
  rw [if_pos hn, h2]
theorem word_er {wd : Str → Option Str} {x z : Str} (h : f σ M = .er x none M1) (hz : wd x = some z) : eWord wd f σ M = .ok (.p (.str z)) M1 := by
  unfold eWord
  rw [h]
  dsimp only
  rw [hz]
theorem word_ok {wd : Str → Option Str} (h : f σ M = .ok d M1) : eWord wd f σ M = .ok (.p (.str "")) M1 := by
  unfold eWord
  rw [h]
theorem lv_er {b : EvS} {x : Str} {y : Option Int} (h : b σ M = .er x y σ1 M) : leave M.length (b σ M) = .er x y M := by rw [h, x_lv_er, List.take_length]
theorem getl_ {n : Nat} {ps : List P} (h : M[n]? = some (.lst ps)) : D.get M (.loc n) = some (.lst ps) := by rw [x_getl, h]
/-! what operators give -/
theorem lt_t {a b : Int} (h : a < b) : oLt (.int a) (.int b) = some (.p (.bl true)) := by rw [o_lt_i, decide_eq_true h]
theorem lt_f {a b : Int} (h : ¬ a < b) : oLt (.int a) (.int b) = some (.p (.bl false)) := by rw [o_lt_i, decide_eq_false h]
theorem le_t {a b : Int} (h : a ≤ b) : oLe (.int a) (.int b) = some (.p (.bl true)) := by rw [o_le_i, decide_eq_true h]
theorem le_f {a b : Int} (h : ¬ a ≤ b) : oLe (.int a) (.int b) = some (.p (.bl false)) := by rw [o_le_i, decide_eq_false h]
theorem gt_t {a b : Int} (h : b < a) : oGt (.int a) (.int b) = some (.p (.bl true)) := by rw [o_gt_i, decide_eq_true h]
theorem gt_f {a b : Int} (h : ¬ b < a) : oGt (.int a) (.int b) = some (.p (.bl false)) := by rw [o_gt_i, decide_eq_false h]
theorem ge_t {a b : Int} (h : b ≤ a) : oGe (.int a) (.int b) = some (.p (.bl true)) := by rw [o_ge_i, decide_eq_true h]
theorem ge_f {a b : Int} (h : ¬ b ≤ a) : oGe (.int a) (.int b) = some (.p (.bl false)) := by rw [o_ge_i, decide_eq_false h]
theorem eq_t {a b : Int} (h : a = b) : oEq (.int a) (.int b) = some (.p (.bl true)) := by rw [o_eq_i, decide_eq_true h]
theorem eq_f {a b : Int} (h : ¬ a = b) : oEq (.int a) (.int b) = some (.p (.bl false)) := by rw [o_eq_i, decide_eq_false h]
theorem ne_t {a b : Int} (h : ¬ a = b) : oNe (.int a) (.int b) = some (.p (.bl true)) := by rw [o_ne_i, decide_eq_false h]; rfl
theorem ne_f {a b : Int} (h : a = b) : oNe (.int a) (.int b) = some (.p (.bl false)) := by rw [o_ne_i, decide_eq_true h]; rfl
theorem mul_small_r {i j : Int} (h1 : -(2 ^ 64) < j) (h2 : j < 2 ^ 64) : oMul (.int i) (.int j) = some (.p (.int (i * j))) := by
  have : mulOk i j = true := by unfold mulOk; rw [decide_eq_true h1, decide_eq_true h2]; simp
  show (if mulOk i j = true then _ else _) = _
  rw [if_pos this]
theorem mul_small_l {i j : Int} (h1 : -(2 ^ 64) < i) (h2 : i < 2 ^ 64) : oMul (.int i) (.int j) = some (.p (.int (i * j))) := by
  have : mulOk i j = true := by unfold mulOk; rw [decide_eq_true h1, decide_eq_true h2]; simp
  show (if mulOk i j = true then _ else _) = _
  rw [if_pos this]
theorem mul_big {i j : Int} (h1 : i.natAbs < 2 ^ 1000) (h2 : j.natAbs < 2 ^ 1000) : oMul (.int i) (.int j) = some (.p (.int (i * j))) := by
  have : mulOk i j = true := by unfold mulOk; rw [decide_eq_true h1, decide_eq_true h2]; simp
  show (if mulOk i j = true then _ else _) = _
  rw [if_pos this]
theorem get_p : D.get M (.p p) = some p := rfl
theorem get_n {ps : List P} : D.get M (.nw ps) = some (.lst ps) := rfl
theorem getL0 : getL M [] = some [] := rfl
theorem getLc {ds : List D} {ps : List P} (h : d.get M = some p) (h2 : getL M ds = some ps) : getL M (d :: ds) = some (p :: ps) := by rw [x_getL, h, h2]
theorem lst_okN {fs : EvA} {ds : List D} {ps : List P} (h : fs σ M = .ok ds M1) (h2 : allP ds = some ps) (h3 : ps.length ≤ 1000) : eLst fs σ M = .ok (.nw ps) M1 := lst_ok h h2 (Nat.le_trans h3 (by decide))
theorem tup_okN {fs : EvA} {ds : List D} {ps : List P} (h : fs σ M = .ok ds M1) (h2 : allP ds = some ps) (h3 : ps.length ≤ 1000) : eTup fs σ M = .ok (.p (.tup ps)) M1 := tup_ok h h2 (Nat.le_trans h3 (by decide))
theorem allP0 : allP [] = some [] := rfl
theorem allPc {ds : List D} {ps : List P} (h : allP ds = some ps) : allP (.p p :: ds) = some (p :: ps) := by rw [x_allP, h]; rfl
end
end Ev

set_option Elab.async false
set_option linter.all false
set_option maxRecDepth 100000
set_option maxHeartbeats 0
/-! printed by gen.py: the combinators of the defs, the head, the rows. -/
namespace Ev
open PySem PySem.Spec PyProof.Rows L2
/-! ### the defs as combinators -/
def b_is_integer : EvS := (sSeq (sRet (eAnd (eIsi "int" (eVar 0)) (eAnd (eNot (eIsi "bool" (eVar 0))) (eChain oLe oLe (eVar 1) (eVar 0) (eVar 2)))))
    sNil)
def F_is_integer : Fn := fnB 3 b_is_integer
def b_is_letter : EvS := (sSeq (sRet (eAnd (eIsi "str" (eVar 0)) (eAnd (eBin oEq (eCB cLen (aCons (eVar 0) aNil)) (eC (.int 1))) (eBin oIn (eVar 0) (eVar 1)))))
    sNil)
def F_is_letter : Fn := fnB 2 b_is_letter
def b_is_stretch : EvS := (sSeq (sIf (bOr (bNot (bTru (eIsi "tuple" (eVar 0)))) (bOf (eBin oNe (eCB cLen (aCons (eVar 0) aNil)) (eC (.int 2))))) (sSeq (sRet (eC (.bl false)))
    sNil) sNil)
    (sSeq (sRet (eAnd (eCall 2 F_is_letter (aCons (eBin oIx (eVar 0) (eC (.int 0))) (aCons (eC (.str "bgr")) aNil))) (eCall 3 F_is_integer (aCons (eBin oIx (eVar 0) (eC (.int 1))) (aCons (eC (.int 1)) (aCons (eC (.int GRT)) aNil))))))
    sNil))
def F_is_stretch : Fn := fnB 1 b_is_stretch
def b_is_machine : EvS := (sSeq (sIf (bOr (bNot (bTru (eIsi "tuple" (eVar 0)))) (bOf (eBin oNe (eCB cLen (aCons (eVar 0) aNil)) (eC (.int 2))))) (sSeq (sRet (eC (.bl false)))
    sNil) sNil)
    (sSeq (sUnp (.tu [(.nm 1), (.nm 2)]) (eVar 0))
    (sSeq (sIf (bOr (bNot (bTru (eIsi "tuple" (eVar 1)))) (bNot (bOf (eChain oLe oLe (eC (.int 1)) (eCB cLen (aCons (eVar 1) aNil)) (eC (.int 6)))))) (sSeq (sRet (eC (.bl false)))
    sNil) sNil)
    (sSeq (sIf (bNot (bTru (eCB cAll (aCons (eLc (.nm 4) [4] (iOf (eVar 1)) bYes (eCall 1 F_is_stretch (aCons (eVar 4) aNil))) aNil)))) (sSeq (sRet (eC (.bl false)))
    sNil) sNil)
    (sSeq (sIf (bOr (bNot (bTru (eIsi "tuple" (eVar 2)))) (bOf (eBin oNotIn (eCB cLen (aCons (eVar 2) aNil)) (eTup (aCons (eC (.int 2)) (aCons (eC (.int 3)) aNil)))))) (sSeq (sRet (eC (.bl false)))
    sNil) sNil)
    (sSeq (sRet (eCB cAll (aCons (eLc (.nm 3) [3] (iOf (eVar 2)) bYes (eCall 3 F_is_integer (aCons (eVar 3) (aCons (eC (.int 0)) (aCons (eC (.int 9)) aNil))))) aNil)))
    sNil))))))
def F_is_machine : Fn := fnB 5 b_is_machine
def b_number_of : EvS := (sSeq (sIf (bOr (bOf (eBin oEq (eVar 0) (eC (.str "")))) (bOr (bOf (eBin oGt (eCB cLen (aCons (eVar 0) aNil)) (eC (.int 31)))) (bNot (bTru (eCB cAll (aCons (eLc (.nm 1) [1] (iOf (eVar 0)) bYes (eBin oIn (eVar 1) (eC (.str "0123456789")))) aNil)))))) (sSeq (sRet (eNeg (eC (.int 1))))
    sNil) sNil)
    (sSeq (sRet (eIf (bOf (eBin oEq (eCB cStr (aCons (eCB cInt (aCons (eVar 0) aNil)) aNil)) (eVar 0))) (eCB cInt (aCons (eVar 0) aNil)) (eNeg (eC (.int 1)))))
    sNil))
def F_number_of : Fn := fnB 2 b_number_of
def b_read_machine : EvS := (sSeq (sSet 1 (eIf (bTru (eIsi "str" (eVar 0))) (eMt "str" mSplit (eVar 0) (aCons (eC (.str " / ")) aNil)) (eLst aNil)))
    (sSeq (sSet 2 (eTup (aCons (eTup aNil) (aCons (eTup aNil) aNil))))
    (sSeq (sIf (bOf (eBin oEq (eCB cLen (aCons (eVar 1) aNil)) (eC (.int 2)))) (sSeq (sSet 3 (eCB cTuple (aCons (eLc (.nm 4) [4] (iOf (eMt "str" mSplit (eBin oIx (eVar 1) (eC (.int 0))) (aCons (eC (.str " ")) aNil))) bYes (eTup (aCons (eSl (eVar 4) sNone (sSome (eC (.int 1)))) (aCons (eCall 1 F_number_of (aCons (eSl (eVar 4) (sSome (eC (.int 1))) sNone) aNil)) aNil)))) aNil)))
    (sSeq (sSet 2 (eTup (aCons (eVar 3) (aCons (eCB cTuple (aCons (eLc (.nm 4) [4] (iOf (eMt "str" mSplit (eBin oIx (eVar 1) (eC (.int 1))) (aCons (eC (.str " ")) aNil))) bYes (eCall 1 F_number_of (aCons (eVar 4) aNil))) aNil)) aNil))))
    sNil)) sNil)
    (sSeq (sIf (bNot (bTru (eCall 1 F_is_machine (aCons (eVar 2) aNil)))) (sSeq (sRaise "InvalidText")
    sNil) sNil)
    (sSeq (sRet (eVar 2))
    sNil)))))
def F_read_machine : Fn := fnB 5 b_read_machine
def b__law_read : EvS := (sSeq (sTryW wdT (sSeq (sRet (eCall 1 F_read_machine (aCons (eVar 0) aNil)))
    sNil))
    sNil)
def F__law_read : Fn := fnB 2 b__law_read
def b__law_int : EvS := (sSeq (sRet (eAnd (eIsi "int" (eVar 0)) (eAnd (eNot (eIsi "bool" (eVar 0))) (eChain oLe oLe (eVar 1) (eVar 0) (eVar 2)))))
    sNil)
def F__law_int : Fn := fnB 3 b__law_int
def b__law_good_machine : EvS := (sSeq (sIf (bOr (bNot (bTru (eIsi "tuple" (eVar 0)))) (bOr (bOf (eBin oNe (eCB cLen (aCons (eVar 0) aNil)) (eC (.int 2)))) (bNot (bTru (eIsi "tuple" (eBin oIx (eVar 0) (eC (.int 0)))))))) (sSeq (sRet (eC (.bl false)))
    sNil) sNil)
    (sSeq (sIf (bOr (bNot (bOf (eChain oLe oLe (eC (.int 1)) (eCB cLen (aCons (eBin oIx (eVar 0) (eC (.int 0))) aNil)) (eC (.int 6))))) (bOr (bNot (bTru (eIsi "tuple" (eBin oIx (eVar 0) (eC (.int 1)))))) (bOf (eBin oNotIn (eCB cLen (aCons (eBin oIx (eVar 0) (eC (.int 1))) aNil)) (eLst (aCons (eC (.int 2)) (aCons (eC (.int 3)) aNil))))))) (sSeq (sRet (eC (.bl false)))
    sNil) sNil)
    (sSeq (sFor (.nm 1) (iOf (eBin oIx (eVar 0) (eC (.int 0)))) (sSeq (sIf (bOr (bNot (bTru (eIsi "tuple" (eVar 1)))) (bOr (bOf (eBin oNe (eCB cLen (aCons (eVar 1) aNil)) (eC (.int 2)))) (bNot (bTru (eCall 3 F__law_int (aCons (eBin oIx (eVar 1) (eC (.int 1))) (aCons (eC (.int 1)) (aCons (eBin oPow (eC (.int 10)) (eC (.int 30))) aNil)))))))) (sSeq (sRet (eC (.bl false)))
    sNil) sNil)
    (sSeq (sIf (bOr (bNot (bTru (eIsi "str" (eBin oIx (eVar 1) (eC (.int 0)))))) (bOf (eBin oNotIn (eBin oIx (eVar 1) (eC (.int 0))) (eLst (aCons (eC (.str "b")) (aCons (eC (.str "g")) (aCons (eC (.str "r")) aNil))))))) (sSeq (sRet (eC (.bl false)))
    sNil) sNil)
    sNil)))
    (sSeq (sRet (eBin oEq (eLc (.nm 1) [1] (iOf (eBin oIx (eVar 0) (eC (.int 1)))) (bNot (bTru (eCall 3 F__law_int (aCons (eVar 1) (aCons (eC (.int 0)) (aCons (eC (.int 9)) aNil)))))) (eVar 1)) (eLst aNil)))
    sNil))))
def F__law_good_machine : Fn := fnB 2 b__law_good_machine
def b__law_figures : EvS := (sSeq (sIf (bOr (bOf (eBin oEq (eVar 0) (eC (.str "")))) (bOr (bOf (eBin oGt (eCB cLen (aCons (eVar 0) aNil)) (eC (.int 31)))) (bOf (eBin oNe (eLc (.nm 1) [1] (iOf (eVar 0)) (bOf (eBin oNotIn (eVar 1) (eC (.str "0123456789")))) (eVar 1)) (eLst aNil))))) (sSeq (sRet (eNeg (eC (.int 1))))
    sNil) sNil)
    (sSeq (sRet (eIf (bOr (bOf (eBin oEq (eVar 0) (eC (.str "0")))) (bOf (eBin oNe (eBin oIx (eVar 0) (eC (.int 0))) (eC (.str "0"))))) (eCB cInt (aCons (eVar 0) aNil)) (eNeg (eC (.int 1)))))
    sNil))
def F__law_figures : Fn := fnB 2 b__law_figures
def b__law_due : EvS := (sSeq (sIf (bNot (bTru (eIsi "str" (eVar 0)))) (sSeq (sRet (eC (.str "text value")))
    sNil) sNil)
    (sSeq (sSet 1 (eMt "str" mSplit (eVar 0) (aCons (eC (.str " ")) aNil)))
    (sSeq (sIf (bOf (eBin oNe (eMt "list" mCount (eVar 1) (aCons (eC (.str "/")) aNil)) (eC (.int 1)))) (sSeq (sRet (eC (.str "text value")))
    sNil) sNil)
    (sSeq (sSet 2 (eMt "list" mIndexL (eVar 1) (aCons (eC (.str "/")) aNil)))
    (sSeq (sSet 3 (eCB cTuple (aCons (eLc (.nm 5) [5] (iOf (eSl (eVar 1) sNone (sSome (eVar 2)))) bYes (eTup (aCons (eSl (eVar 5) sNone (sSome (eC (.int 1)))) (aCons (eCall 1 F__law_figures (aCons (eSl (eVar 5) (sSome (eC (.int 1))) sNone) aNil)) aNil)))) aNil)))
    (sSeq (sSet 4 (eTup (aCons (eVar 3) (aCons (eCB cTuple (aCons (eLc (.nm 5) [5] (iOf (eSl (eVar 1) (sSome (eBin oAdd (eVar 2) (eC (.int 1)))) sNone)) bYes (eCall 1 F__law_figures (aCons (eVar 5) aNil))) aNil)) aNil))))
    (sSeq (sRet (eIf (bTru (eCall 1 F__law_good_machine (aCons (eVar 4) aNil))) (eVar 4) (eC (.str "text value"))))
    sNil)))))))
def F__law_due : Fn := fnB 6 b__law_due
def b_need_machine : EvS := (sSeq (sIf (bNot (bTru (eCall 1 F_is_machine (aCons (eVar 0) aNil)))) (sSeq (sRaise "InvalidMachine")
    sNil) sNil)
    sNil)
def F_need_machine : Fn := fnB 1 b_need_machine
def b_machine_text : EvS := (sSeq (sExpr (eCall 1 F_need_machine (aCons (eVar 0) aNil)))
    (sSeq (sSet 1 (eMt "str" mJoin (eC (.str " ")) (aCons (eLc (.tu [(.nm 2), (.nm 3)]) [2, 3] (iOf (eBin oIx (eVar 0) (eC (.int 0)))) bYes (eBin oAdd (eVar 2) (eCB cStr (aCons (eVar 3) aNil)))) aNil)))
    (sSeq (sRet (eBin oAdd (eBin oAdd (eVar 1) (eC (.str " / "))) (eMt "str" mJoin (eC (.str " ")) (aCons (eLc (.nm 4) [4] (iOf (eBin oIx (eVar 0) (eC (.int 1)))) bYes (eCB cStr (aCons (eVar 4) aNil))) aNil))))
    sNil)))
def F_machine_text : Fn := fnB 5 b_machine_text
def b__law_unwind : EvS := (sSeq (sIf (bOf (eBin oGt (eBin oIx (eVar 0) (eC (.int 0))) (eC (.int 0)))) (sSeq (sSet 3 (eBin oMod (eCB cInt (aCons (eBin oIx (eVar 0) (eC (.int 0))) aNil)) (eVar 1)))
    (sSeq (sSub (eBin oFdiv (eBin oIx (eVar 0) (eC (.int 0))) (eVar 1)) (eVar 0) (eC (.int 0)))
    (sSeq (sRet (eVar 3))
    sNil))) sNil)
    (sSeq (sSub (eBin oMod (eCB cInt (aCons (eBin oAdd (eBin oMul (eBin oIx (eVar 0) (eC (.int 1))) (eC (.int 42293))) (eC (.int 239))) aNil)) (eC (.int 2147483423))) (eVar 0) (eC (.int 1)))
    (sSeq (sSet 2 (eBin oMod (eCB cInt (aCons (eBin oMul (eBin oIx (eVar 0) (eC (.int 1))) (eBin oAdd (eBin oFdiv (eBin oIx (eVar 0) (eC (.int 1))) (eC (.int 5))) (eC (.int 61)))) aNil)) (eC (.int 2147483399))))
    (sSeq (sRet (eBin oMod (eCB cInt (aCons (eBin oFdiv (eVar 2) (eC (.int 32))) aNil)) (eVar 1)))
    sNil))))
def F__law_unwind : Fn := fnB 4 b__law_unwind
def b__law_pick : EvS := (sSeq (sRet (eBin oIx (eVar 1) (eCall 2 F__law_unwind (aCons (eVar 0) (aCons (eCB cLen (aCons (eVar 1) aNil)) aNil)))))
    sNil)
def F__law_pick : Fn := fnB 2 b__law_pick
def b__law_any_value (F : Fn) : EvS := (sSeq (sSet 2 (eLst (aCons (eC (.non)) (aCons (eC (.bl true)) (aCons (eC (.bl false)) (aCons (eC (.int 0)) (aCons (eC (.int 1)) (aCons (eC (.int 2)) (aCons (eC (.int 9)) (aCons (eC (.int 10)) (aCons (eNeg (eC (.int 1))) (aCons (eBin oPow (eC (.int 10)) (eC (.int 30))) (aCons (eBin oAdd (eBin oPow (eC (.int 10)) (eC (.int 30))) (eC (.int 1))) (aCons (eC (.str "")) (aCons (eC (.str "b")) (aCons (eC (.str "x")) (aCons (eC (.str "xyz")) (aCons (eC (.str "bgr")) (aCons (eC (.str "b1")) (aCons (eTup aNil) (aCons (eLst aNil) aNil)))))))))))))))))))))
    (sSeq (sSet 2 (eBin oAdd (eVar 2) (eLst (aCons (eTup (aCons (eC (.str "b")) (aCons (eC (.int 1)) aNil))) (aCons (eTup (aCons (eC (.int 1)) (aCons (eC (.int 2)) aNil))) (aCons (eTup (aCons (eTup (aCons (eC (.str "b")) (aCons (eC (.int 2)) aNil))) aNil)) (aCons (eTup (aCons (eTup (aCons (eTup (aCons (eC (.str "b")) (aCons (eC (.int 2)) aNil))) aNil)) (aCons (eTup (aCons (eC (.int 1)) (aCons (eC (.int 2)) aNil))) aNil))) (aCons (eTup (aCons (eC (.str "w")) (aCons (eC (.int 3)) aNil))) (aCons (eTup (aCons (eTup (aCons (eC (.str "r")) (aCons (eC (.int 0)) aNil))) aNil)) (aCons (eC (.str "a")) (aCons (eLst (aCons (eC (.int 1)) aNil)) (aCons (eTup (aCons (eC (.int 9)) (aCons (eC (.int 10)) aNil))) (aCons (eC (.str ".")) aNil)))))))))))))
    (sSeq (sIf (bOr (bOf (eBin oEq (eVar 1) (eC (.int 0)))) (bOf (eBin oLt (eCall 2 F__law_unwind (aCons (eVar 0) (aCons (eC (.int 9)) aNil))) (eC (.int 6))))) (sSeq (sRet (eCall 2 F__law_pick (aCons (eVar 0) (aCons (eVar 2) aNil))))
    sNil) sNil)
    (sSeq (sSet 3 (eLc (.nm 4) [4] (iRange1 (aCons (eCall 2 F__law_unwind (aCons (eVar 0) (aCons (eC (.int 4)) aNil))) aNil)) bYes (eCall 2 F (aCons (eVar 0) (aCons (eBin oSub (eVar 1) (eC (.int 1))) aNil)))))
    (sSeq (sRet (eIf (bOf (eBin oEq (eCall 2 F__law_unwind (aCons (eVar 0) (aCons (eC (.int 3)) aNil))) (eC (.int 0)))) (eVar 3) (eCB cTuple (aCons (eVar 3) aNil))))
    sNil)))))
def F__law_any_value_ : Nat → Fn
  | 0 => fun _ _ => .no
  | n + 1 => fnB 5 (b__law_any_value (F__law_any_value_ n))
def F__law_any_value : Fn := F__law_any_value_ 19
def b__law_spoilt : EvS := (sSeq (sPar [5, 6] (aCons (eCall 2 F__law_unwind (aCons (eVar 0) (aCons (eBin oAdd (eCB cLen (aCons (eVar 1) aNil)) (eC (.int 1))) aNil))) (aCons (eCall 2 F__law_unwind (aCons (eVar 0) (aCons (eC (.int 5)) aNil))) aNil)))
    (sSeq (sIf (bOf (eBin oEq (eVar 6) (eC (.int 0)))) (sSeq (sRet (eBin oAdd (eSl (eVar 1) sNone (sSome (eVar 5))) (eSl (eVar 1) (sSome (eBin oAdd (eVar 5) (eC (.int 1)))) sNone)))
    sNil) sNil)
    (sSeq (sIf (bOf (eBin oEq (eVar 6) (eC (.int 1)))) (sSeq (sRet (eBin oAdd (eBin oAdd (eSl (eVar 1) sNone (sSome (eVar 5))) (eCall 2 F__law_pick (aCons (eVar 0) (aCons (eLst (aCons (eC (.str " ")) (aCons (eC (.str "0")) (aCons (eC (.str "1")) (aCons (eC (.str "9")) (aCons (eC (.str "/")) (aCons (eC (.str "-")) (aCons (eC (.str "b")) (aCons (eC (.str "
")) (aCons (eC (.str "g1 ")) aNil)))))))))) aNil)))) (eSl (eVar 1) (sSome (eVar 5)) sNone)))
    sNil) sNil)
    (sSeq (sSetM 2 (eMt "str" mSplit (eVar 1) (aCons (eC (.str " ")) aNil)))
    (sSeq (sSet 3 (eCall 2 F__law_unwind (aCons (eVar 0) (aCons (eCB cLen (aCons (eVar 2) aNil)) aNil))))
    (sSeq (sIf (bOf (eBin oEq (eVar 6) (eC (.int 2)))) (sSeq (sRet (eMt "str" mJoin (eC (.str " ")) (aCons (eBin oAdd (eSl (eVar 2) sNone (sSome (eVar 3))) (eSl (eVar 2) (sSome (eBin oAdd (eVar 3) (eC (.int 1)))) sNone)) aNil)))
    sNil) sNil)
    (sSeq (sIf (bOf (eBin oEq (eVar 6) (eC (.int 3)))) (sSeq (sRet (eMt "str" mJoin (eC (.str " ")) (aCons (eBin oAdd (eSl (eVar 2) sNone (sSome (eBin oAdd (eVar 3) (eC (.int 1))))) (eSl (eVar 2) (sSome (eVar 3)) sNone)) aNil)))
    sNil) sNil)
    (sSeq (sSet 4 (eLst (aCons (eC (.str "0")) (aCons (eC (.str "b0")) (aCons (eC (.str "b01")) (aCons (eC (.str "w1")) (aCons (eC (.str "10")) (aCons (eC (.str "b")) (aCons (eBin oAdd (eC (.str "r")) (eBin oMul (eC (.str "9")) (eC (.int 31)))) (aCons (eC (.str "/")) (aCons (eC (.str "")) (aCons (eC (.str "3")) (aCons (eC (.str "bg1")) (aCons (eC (.str "B1")) (aCons (eC (.str "g1.0")) aNil)))))))))))))))
    (sSeq (sSub (eCall 2 F__law_pick (aCons (eVar 0) (aCons (eVar 4) aNil))) (eVar 2) (eVar 3))
    (sSeq (sRet (eMt "str" mJoin (eC (.str " ")) (aCons (eVar 2) aNil)))
    sNil))))))))))
def F__law_spoilt : Fn := fnB 7 b__law_spoilt
def b__law_text : EvS := (sSeq (sSet 1 (eLc (.tu [(.nm 2), (.nm 3)]) [2, 3] (iOf (eBin oIx (eVar 0) (eC (.int 0)))) bYes (eBin oAdd (eVar 2) (eCB cStr (aCons (eVar 3) aNil)))))
    (sSeq (sRet (eMt "str" mJoin (eC (.str " ")) (aCons (eBin oAdd (eBin oAdd (eVar 1) (eLst (aCons (eC (.str "/")) aNil))) (eLc (.nm 4) [4] (iOf (eBin oIx (eVar 0) (eC (.int 1)))) bYes (eCB cStr (aCons (eVar 4) aNil)))) aNil)))
    sNil))
def F__law_text : Fn := fnB 5 b__law_text
def b__law_any_machine : EvS := (sSeq (sSet 2 (eTup aNil))
    (sSeq (sFor (.nm 3) (iRange1 (aCons (eBin oAdd (eC (.int 1)) (eCall 2 F__law_unwind (aCons (eVar 0) (aCons (eC (.int 4)) aNil)))) aNil)) (sSeq (sSet 5 (eBin oAdd (eC (.int 1)) (eCall 2 F__law_unwind (aCons (eVar 0) (aCons (eCall 2 F__law_pick (aCons (eVar 0) (aCons (eLst (aCons (eC (.int 1)) (aCons (eC (.int 3)) (aCons (eC (.int 8)) aNil)))) aNil))) aNil)))))
    (sSeq (sIf (bTru (eVar 1)) (sSeq (sSet 5 (eBin oAdd (eC (.int 1)) (eCall 2 F__law_unwind (aCons (eVar 0) (aCons (eCall 2 F__law_pick (aCons (eVar 0) (aCons (eLst (aCons (eC (.int 5)) (aCons (eBin oPow (eC (.int 10)) (eC (.int 12))) (aCons (eBin oPow (eC (.int 10)) (eC (.int 30))) (aCons (eBin oPow (eC (.int 10)) (eC (.int 30))) aNil))))) aNil))) aNil)))))
    sNil) sNil)
    (sSeq (sSet 2 (eBin oAdd (eVar 2) (eTup (aCons (eTup (aCons (eCall 2 F__law_pick (aCons (eVar 0) (aCons (eC (.str "bgr")) aNil))) (aCons (eVar 5) aNil))) aNil))))
    sNil))))
    (sSeq (sSet 4 (eCB cTuple (aCons (eLc (.nm 3) [3] (iRange1 (aCons (eBin oAdd (eC (.int 2)) (eCall 2 F__law_unwind (aCons (eVar 0) (aCons (eC (.int 2)) aNil)))) aNil)) bYes (eCall 2 F__law_unwind (aCons (eVar 0) (aCons (eCall 2 F__law_pick (aCons (eVar 0) (aCons (eLst (aCons (eC (.int 3)) (aCons (eC (.int 10)) aNil))) aNil))) aNil)))) aNil)))
    (sSeq (sRet (eTup (aCons (eVar 2) (aCons (eVar 4) aNil))))
    sNil))))
def F__law_any_machine : Fn := fnB 6 b__law_any_machine
def b__law_spool : EvS := (sSeq (sSet 2 (eIf (bOf (eBin oLt (eVar 1) (eCB cLen (aCons (eVar 0) aNil)))) (eCB cAbs (aCons (eCB cInt (aCons (eBin oIx (eVar 0) (eVar 1)) aNil)) aNil)) (eBin oAdd (eBin oMul (eC (.int 601)) (eVar 1)) (eC (.int 113)))))
    (sSeq (sRet (eLst (aCons (eIf (bOf (eBin oGe (eVar 2) (eBin oPow (eC (.int 10)) (eC (.int 18))))) (eVar 2) (eC (.int 0))) (aCons (eBin oAdd (eBin oMod (eCB cInt (aCons (eBin oAdd (eBin oAdd (eBin oMul (eVar 2) (eC (.int 71))) (eBin oMul (eC (.int 4603)) (eVar 1))) (eC (.int 57))) aNil)) (eC (.int 2147483423))) (eC (.int 1))) aNil))))
    sNil))
def F__law_spool : Fn := fnB 3 b__law_spool
def b_law : EvS := (sSeq (sFor (.nm 1) (iRange1 (aCons (eCB cMax (aCons (eC (.int 6)) (aCons (eCB cMin (aCons (eC (.int 14)) (aCons (eCB cLen (aCons (eVar 0) aNil)) aNil))) aNil))) aNil)) (sSeq (sSetM 3 (eCall 2 F__law_spool (aCons (eVar 0) (aCons (eVar 1) aNil))))
    (sSeq (sFor (.nm 4) (iOf (eTup (aCons (eC (.bl false)) (aCons (eC (.bl true)) aNil)))) (sSeq (sSet 6 (eCall 2 F__law_any_machine (aCons (eVar 3) (aCons (eVar 4) aNil))))
    (sSeq (sSet 7 (eCall 1 F__law_text (aCons (eVar 6) aNil)))
    (sSeq (sIf (bOr (bOf (eBin oNe (eCall 1 F_machine_text (aCons (eVar 6) aNil)) (eVar 7))) (bOf (eBin oNe (eCall 1 F__law_read (aCons (eVar 7) aNil)) (eVar 6)))) (sSeq (sRet (eC (.bl false)))
    sNil) sNil)
    (sSeq (sSet 8 (eVar 7))
    (sSeq (sFor (.nm 9) (iRange1 (aCons (eC (.int 8)) aNil)) (sSeq (sSet 8 (eCall 2 F__law_spoilt (aCons (eVar 3) (aCons (eIf (bOf (eBin oGt (eBin oMod (eVar 9) (eC (.int 3))) (eC (.int 0)))) (eVar 8) (eVar 7)) aNil))))
    (sSeq (sIf (bOf (eBin oNe (eCall 1 F__law_read (aCons (eVar 8) aNil)) (eCall 1 F__law_due (aCons (eVar 8) aNil)))) (sSeq (sRet (eC (.bl false)))
    sNil) sNil)
    sNil)))
    sNil))))))
    (sSeq (sSet 5 (eCall 2 F__law_any_value (aCons (eVar 3) (aCons (eC (.int 2)) aNil))))
    (sSeq (sIf (bOf (eBin oNe (eCall 1 F__law_read (aCons (eVar 5) aNil)) (eCall 1 F__law_due (aCons (eVar 5) aNil)))) (sSeq (sRet (eC (.bl false)))
    sNil) sNil)
    (sSeq (sIf (bAnd (bNot (bTru (eCall 1 F__law_good_machine (aCons (eVar 5) aNil)))) (bOf (eBin oNe (eWord wdT (eCall 1 F_machine_text (aCons (eVar 5) aNil))) (eC (.str "machine value"))))) (sSeq (sRet (eC (.bl false)))
    sNil) sNil)
    sNil))))))
    (sSeq (sSet 2 (eLst (aCons (eC (.str "b2 r3 / 1 2")) (aCons (eC (.str "b1 g1 b4 / 0 3 4")) (aCons (eC (.str "")) (aCons (eC (.str "/")) (aCons (eC (.str " / ")) (aCons (eC (.str "b2 / 1")) (aCons (eC (.str "b2 / 1 2 3 4")) (aCons (eC (.str "b2 /1 2")) (aCons (eC (.str "b2  r3 / 1 2")) aNil)))))))))))
    (sSeq (sSet 2 (eBin oAdd (eVar 2) (eLst (aCons (eC (.str "b2 r3 /  1 2")) (aCons (eC (.str "b2 r3 / 1 2 ")) (aCons (eC (.str " b2 r3 / 1 2")) (aCons (eC (.str "b2r3 / 1 2")) (aCons (eC (.str "b02 / 1 2")) (aCons (eC (.str "b2 / 01 2")) (aCons (eC (.str "b0 / 1 2")) aNil))))))))))
    (sSeq (sSet 2 (eBin oAdd (eVar 2) (eLst (aCons (eBin oAdd (eBin oAdd (eC (.str "b")) (eCB cStr (aCons (eBin oPow (eC (.int 10)) (eC (.int 30))) aNil))) (eC (.str " / 0 9"))) (aCons (eBin oAdd (eBin oAdd (eC (.str "b")) (eCB cStr (aCons (eBin oAdd (eBin oPow (eC (.int 10)) (eC (.int 30))) (eC (.int 1))) aNil))) (eC (.str " / 0 9"))) (aCons (eC (.str "b2 / 1 10")) (aCons (eC (.str "b2 / / 1 2")) aNil)))))))
    (sSeq (sSet 2 (eBin oAdd (eVar 2) (eLst (aCons (eBin oAdd (eBin oMul (eC (.str "b2 ")) (eC (.int 6))) (eC (.str "/ 0 0"))) (aCons (eBin oAdd (eBin oMul (eC (.str "b2 ")) (eC (.int 7))) (eC (.str "/ 0 0"))) (aCons (eC (.str "b+2 / 1 2")) (aCons (eC (.str "b2 / -1 2")) (aCons (eC (.str "b2 r3 / 1 2
")) (aCons (eC (.str "w2 / 1 2")) aNil)))))))))
    (sSeq (sSet 2 (eBin oAdd (eVar 2) (eLst (aCons (eC (.str "B2 / 1 2")) (aCons (eC (.str "b / 1 2")) aNil)))))
    (sSeq (sIf (bOf (eBin oNe (eLc (.nm 10) [10] (iOf (eVar 2)) (bOf (eBin oNe (eCall 1 F__law_read (aCons (eVar 10) aNil)) (eCall 1 F__law_due (aCons (eVar 10) aNil)))) (eVar 10)) (eLst aNil))) (sSeq (sRet (eC (.bl false)))
    sNil) sNil)
    (sSeq (sRet (eBin oEq (eCall 1 F_read_machine (aCons (eC (.str "b1 g1 b4 / 0 3 4")) aNil)) (eTup (aCons (eTup (aCons (eTup (aCons (eC (.str "b")) (aCons (eC (.int 1)) aNil))) (aCons (eTup (aCons (eC (.str "g")) (aCons (eC (.int 1)) aNil))) (aCons (eTup (aCons (eC (.str "b")) (aCons (eC (.int 4)) aNil))) aNil)))) (aCons (eTup (aCons (eC (.int 0)) (aCons (eC (.int 3)) (aCons (eC (.int 4)) aNil)))) aNil)))))
    sNil))))))))
def F_law : Fn := fnB 11 b_law
/-! ### the head -/
def top (i : Nat) : Stmt := PySem.Challenge.pw_stampribbon_k07_texts_of_machines.main.body.getD i (.Pass ⟨0, 0, 0, 0⟩)
def dd (x : Str) (i : Nat) : He.DefD := ⟨(x, none), x, x, defArgs (top i), defBody (top i), defScope (top i), [], []⟩
def fnL : List He.DefD := [dd "is_integer" 21,
  dd "is_letter" 22,
  dd "is_stretch" 23,
  dd "is_machine" 24,
  dd "need_machine" 25,
  dd "number_of" 28,
  dd "machine_text" 29,
  dd "read_machine" 30,
  dd "_law_spool" 32,
  dd "_law_unwind" 33,
  dd "_law_pick" 34,
  dd "_law_any_machine" 35,
  dd "_law_any_line" 36,
  dd "_law_length" 37,
  dd "_law_step" 38,
  dd "_law_colour" 39,
  dd "_law_int" 40,
  dd "_law_good_machine" 41,
  dd "_law_good_line" 42,
  dd "_law_any_value" 43,
  dd "_law_bent" 44,
  dd "_law_names" 45,
  dd "_law_word" 46,
  dd "_law_text" 47,
  dd "_law_figures" 48,
  dd "_law_due" 49,
  dd "_law_spoilt" 50,
  dd "_law_read" 51,
  dd "law" 52]
def faL0 : List He.Fa := [.glo "is_integer", .glo "is_letter", .glo "is_stretch", .glo "is_machine", .glo "need_machine", .glo "number_of", .glo "machine_text", .glo "read_machine", .glo "_law_spool", .glo "_law_unwind", .glo "_law_pick", .glo "_law_any_machine", .glo "_law_any_line", .glo "_law_length", .glo "_law_step", .glo "_law_colour", .glo "_law_int", .glo "_law_good_machine", .glo "_law_good_line", .glo "_law_any_value", .glo "_law_bent", .glo "_law_names", .glo "_law_word", .glo "_law_text", .glo "_law_figures", .glo "_law_due", .glo "_law_spoilt", .glo "_law_read", .glo "law", .free "isinstance"]
def faL1 : List He.Fa := [.free "len", .free "abs", .free "max", .free "min", .free "sum", .free "all", .free "sorted", .free "int", .free "str", .free "tuple", .free "list", .free "bool", .free "range", .free "zip", .free "enumerate", .int "GREAT" (10 ^ 30), .str "COLOURS" "bgr", .int "MOST_STRETCHES" (6), .int "MOST_FIGURES" (31), .glo "InvalidMachine", .exc "InvalidMachine", .glo "InvalidText", .exc "InvalidText", .glo "RibbonError"]
def faL : List He.Fa := faL0 ++ faL1
def looseL0 : List Str := ["RibbonError", "InvalidMachine", "InvalidStanding", "InvalidLine", "InvalidNumber", "InvalidIndex", "InvalidPlace", "InvalidColour", "InvalidWish", "InvalidSeen", "InvalidSign", "InvalidText", "Unlike", "NothingToUndo", "TooMany", "Failed", "GREAT", "COLOURS", "MOST_STRETCHES", "is_integer", "is_letter", "is_stretch", "is_machine", "need_machine", "MOST_FIGURES", "number_of", "machine_text", "read_machine", "_law_spool", "_law_unwind"]
def looseL1 : List Str := ["_law_pick", "_law_any_machine", "_law_any_line", "_law_length", "_law_step", "_law_colour", "_law_int", "_law_good_machine", "_law_good_line", "_law_any_value", "_law_bent", "_law_names", "_law_word", "_law_text", "_law_figures", "_law_due", "_law_spoilt", "_law_read"]
def looseL : List Str := looseL0 ++ looseL1
def tfL : List He.Defn := [("law", none)]
def tfT (K : PySem.W.Frag) : List (Addr × Str) := tfL.map fun p => ((He.cT K p).2, (p.1 ++ (".<locals>." : Str)) ++ ("<lambda>" : Str))
def exB (K : PySem.W.Frag) : Bool := decide (TK K = tfT K) && (decide (((TK K).map (·.1)).Nodup) && ((lamDefs.all fun x => (tfL.map (·.1)).contains x == hasG K x) && wdL.all fun q => errB K q.1))
abbrev RR : PySem.W.OpenRow := PySem.W.OpenLaw.row PySem.Challenge.rw_stampribbon_k07_texts_of_machines
abbrev hk : PySem.W.Hook := He.hookX 4 faL fnL [] tfL exB
def ob (s : PySem.W.SharedT) : He.AlX := He.obsX 4 faL fnL [] tfL exB (HandSHeadRun.getT s)
theorem ob_eq (s : PySem.W.SharedT) : ob s = hk.obs s.abs := He.obsX_eq (HandSHeadRun.getT_eq s)
theorem run_ (w : World) : HandSHeadRun.RunEq RR (PySem.W.view RR.prog [52]) hk ob 20000 looseL w := by
  intro os
  kernel_rfl
/-! ### each def keeps its promise -/
def cstL : List (Str × Ev.P) := [("GREAT", .int GRT), ("COLOURS", .str "bgr"), ("MOST_STRETCHES", .int 6), ("MOST_FIGURES", .int 31)]
def excL : List Str := ["InvalidMachine", "InvalidText"]
theorem c_is_integer : (cmp 60).ss ⟨["value", "low", "high"], defScope (top 21), [], cstL, [], excL, fun _ => true, (if false = true then some wdT else none), (if false = true then some wdT else none)⟩ (defBody (top 21)) = some b_is_integer := by kernel_rfl
theorem c_is_letter : (cmp 60).ss ⟨["value", "letters"], defScope (top 22), [], cstL, [], excL, fun _ => true, (if false = true then some wdT else none), (if false = true then some wdT else none)⟩ (defBody (top 22)) = some b_is_letter := by kernel_rfl
theorem c_is_stretch : (cmp 60).ss ⟨["value"], defScope (top 23), [("is_integer", 3, F_is_integer), ("is_letter", 2, F_is_letter)], cstL, [], excL, fun _ => true, (if false = true then some wdT else none), (if false = true then some wdT else none)⟩ (defBody (top 23)) = some b_is_stretch := by kernel_rfl
theorem c_is_machine : (cmp 60).ss ⟨["value", "ribbon", "steps", "step", "stretch"], defScope (top 24), [("is_integer", 3, F_is_integer), ("is_stretch", 1, F_is_stretch)], cstL, [], excL, fun _ => true, (if false = true then some wdT else none), (if false = true then some wdT else none)⟩ (defBody (top 24)) = some b_is_machine := by kernel_rfl
theorem c_number_of : (cmp 60).ss ⟨["word", "sign"], defScope (top 28), [], cstL, [], excL, fun _ => true, (if false = true then some wdT else none), (if false = true then some wdT else none)⟩ (defBody (top 28)) = some b_number_of := by kernel_rfl
theorem c_read_machine : (cmp 60).ss ⟨["value", "parts", "found", "ribbon", "word"], defScope (top 30), [("is_machine", 1, F_is_machine), ("number_of", 1, F_number_of)], cstL, [], excL, fun _ => true, (if false = true then some wdT else none), (if false = true then some wdT else none)⟩ (defBody (top 30)) = some b_read_machine := by kernel_rfl
theorem c__law_read : (cmp 60).ss ⟨["value", "error"], defScope (top 51), [("read_machine", 1, F_read_machine)], cstL, [], excL, fun _ => true, (if false = true then some wdT else none), (if true = true then some wdT else none)⟩ (defBody (top 51)) = some b__law_read := by kernel_rfl
theorem c__law_int : (cmp 60).ss ⟨["value", "low", "high"], defScope (top 40), [], cstL, [], excL, fun _ => true, (if false = true then some wdT else none), (if false = true then some wdT else none)⟩ (defBody (top 40)) = some b__law_int := by kernel_rfl
theorem c__law_good_machine : (cmp 60).ss ⟨["value", "one"], defScope (top 41), [("_law_int", 3, F__law_int)], cstL, [], excL, fun _ => true, (if false = true then some wdT else none), (if false = true then some wdT else none)⟩ (defBody (top 41)) = some b__law_good_machine := by kernel_rfl
theorem c__law_figures : (cmp 60).ss ⟨["word", "sign"], defScope (top 48), [], cstL, [], excL, fun _ => true, (if false = true then some wdT else none), (if false = true then some wdT else none)⟩ (defBody (top 48)) = some b__law_figures := by kernel_rfl
theorem c__law_due : (cmp 60).ss ⟨["value", "words", "at", "ribbon", "machine", "word"], defScope (top 49), [("_law_good_machine", 1, F__law_good_machine), ("_law_figures", 1, F__law_figures)], cstL, [], excL, fun _ => true, (if false = true then some wdT else none), (if false = true then some wdT else none)⟩ (defBody (top 49)) = some b__law_due := by kernel_rfl
theorem c_need_machine : (cmp 60).ss ⟨["value"], defScope (top 25), [("is_machine", 1, F_is_machine)], cstL, [], excL, fun _ => true, (if false = true then some wdT else none), (if false = true then some wdT else none)⟩ (defBody (top 25)) = some b_need_machine := by kernel_rfl
theorem c_machine_text : (cmp 60).ss ⟨["machine", "ribbon", "colour", "size", "step"], defScope (top 29), [("need_machine", 1, F_need_machine)], cstL, [], excL, fun _ => true, (if false = true then some wdT else none), (if false = true then some wdT else none)⟩ (defBody (top 29)) = some b_machine_text := by kernel_rfl
theorem c__law_unwind : (cmp 60).ss ⟨["spool", "most", "wide", "part"], defScope (top 33), [], cstL, [], excL, fun _ => true, (if false = true then some wdT else none), (if false = true then some wdT else none)⟩ (defBody (top 33)) = some b__law_unwind := by kernel_rfl
theorem c__law_pick : (cmp 60).ss ⟨["spool", "things"], defScope (top 34), [("_law_unwind", 2, F__law_unwind)], cstL, [], excL, fun _ => true, (if false = true then some wdT else none), (if false = true then some wdT else none)⟩ (defBody (top 34)) = some b__law_pick := by kernel_rfl
theorem c__law_any_value (F : Fn) : (cmp 60).ss ⟨["spool", "deep", "some", "made", "part"], defScope (top 43), ("_law_any_value", 2, F) :: [("_law_unwind", 2, F__law_unwind), ("_law_pick", 2, F__law_pick)], cstL, [], excL, fun _ => true, (if false = true then some wdT else none), (if false = true then some wdT else none)⟩ (defBody (top 43)) = some (b__law_any_value F) := by kernel_rfl
theorem c__law_spoilt : (cmp 60).ss ⟨["spool", "text", "words", "here", "some", "at", "way"], defScope (top 50), [("_law_pick", 2, F__law_pick), ("_law_unwind", 2, F__law_unwind)], cstL, ["words"], excL, fun _ => true, (if false = true then some wdT else none), (if false = true then some wdT else none)⟩ (defBody (top 50)) = some b__law_spoilt := by kernel_rfl
theorem c__law_text : (cmp 60).ss ⟨["machine", "words", "colour", "size", "step"], defScope (top 47), [], cstL, [], excL, fun _ => true, (if false = true then some wdT else none), (if false = true then some wdT else none)⟩ (defBody (top 47)) = some b__law_text := by kernel_rfl
theorem c__law_any_machine : (cmp 60).ss ⟨["spool", "great", "ribbon", "turn", "steps", "size"], defScope (top 35), [("_law_unwind", 2, F__law_unwind), ("_law_pick", 2, F__law_pick)], cstL, [], excL, fun _ => true, (if false = true then some wdT else none), (if false = true then some wdT else none)⟩ (defBody (top 35)) = some b__law_any_machine := by kernel_rfl
theorem c__law_spool : (cmp 60).ss ⟨["script", "k", "cell"], defScope (top 32), [], cstL, [], excL, fun _ => true, (if false = true then some wdT else none), (if false = true then some wdT else none)⟩ (defBody (top 32)) = some b__law_spool := by kernel_rfl
theorem c_law : (cmp 60).ss ⟨["script", "k", "rows", "spool", "great", "odd", "machine", "text", "spoilt", "turn", "value"], defScope (top 52), [("read_machine", 1, F_read_machine), ("_law_read", 1, F__law_read), ("_law_due", 1, F__law_due), ("machine_text", 1, F_machine_text), ("_law_good_machine", 1, F__law_good_machine), ("_law_any_value", 2, F__law_any_value), ("_law_spoilt", 2, F__law_spoilt), ("_law_text", 1, F__law_text), ("_law_any_machine", 2, F__law_any_machine), ("_law_spool", 2, F__law_spool)], cstL, ["spool"], excL, fun _ => true, (if true = true then some wdT else none), (if false = true then some wdT else none)⟩ (defBody (top 52)) = some b_law := by kernel_rfl
theorem c__law_names (a0 : Addr) (c : Str) : hSs (cH 60 ⟨namesN, defScope (top 45), ["some"], a0, tstE c⟩) ⟨namesN, defScope (top 45), ["some"], a0, tstE c⟩ (defBody (top 45)) = some (b__law_names a0 c) := by kernel_rfl
theorem wb_ : isWB (defBody (top 46)) = some (("call" : Str), ("error" : Str)) := by kernel_rfl
structure Hd (w : World) (K : PySem.W.Frag) (mg : Str → Option Value) : Prop where
  says : He.SaysD faL fnL K
  gl : GlOk K mg cstL excL
  glo : ∀ x, (He.Fa.glo x).ok K = true → mg x = some (.ref (He.ga K x))
section
variable {w : World} {K : PySem.W.Frag} {mg : Str → Option Value} (h : Hd w K mg) (base : Heap) (W : WOk (PySem.Challenge.rw_stampribbon_k07_texts_of_machines).prog w K mg base wdT)
include h W
theorem g_is_integer : FnG (PySem.Challenge.rw_stampribbon_k07_texts_of_machines).prog w K mg base 1 "is_integer" 3 F_is_integer := by
  obtain ⟨fd, F⟩ := h.says.def_ 0 (d := dd "is_integer" 21) rfl
  exact fn_mk (lb := false) (tb := false) (wd := wdT) (N := ["value", "low", "high"]) (ps := ["value", "low", "high"]) (k := 0) h.gl F (h.glo "is_integer" (h.says.fact 0 (f := .glo "is_integer") rfl)) (by decide +kernel) (fun _ _ _ _ _ _ us hl => match us, hl with | [_, _, _], _ => rfl) fns_nil need_no c_is_integer
theorem g_is_letter : FnG (PySem.Challenge.rw_stampribbon_k07_texts_of_machines).prog w K mg base 1 "is_letter" 2 F_is_letter := by
  obtain ⟨fd, F⟩ := h.says.def_ 1 (d := dd "is_letter" 22) rfl
  exact fn_mk (lb := false) (tb := false) (wd := wdT) (N := ["value", "letters"]) (ps := ["value", "letters"]) (k := 0) h.gl F (h.glo "is_letter" (h.says.fact 1 (f := .glo "is_letter") rfl)) (by decide +kernel) (fun _ _ _ _ _ _ us hl => match us, hl with | [_, _], _ => rfl) fns_nil need_no c_is_letter
theorem g_is_stretch : FnG (PySem.Challenge.rw_stampribbon_k07_texts_of_machines).prog w K mg base 2 "is_stretch" 1 F_is_stretch := by
  obtain ⟨fd, F⟩ := h.says.def_ 2 (d := dd "is_stretch" 23) rfl
  exact fn_mk (lb := false) (tb := false) (wd := wdT) (N := ["value"]) (ps := ["value"]) (k := 1) h.gl F (h.glo "is_stretch" (h.says.fact 2 (f := .glo "is_stretch") rfl)) (by decide +kernel) (fun _ _ _ _ _ _ us hl => match us, hl with | [_], _ => rfl) (fns_cons (g_is_integer h base W) (fns_cons (g_is_letter h base W) fns_nil (by decide)) (by decide)) need_no c_is_stretch
theorem g_is_machine : FnG (PySem.Challenge.rw_stampribbon_k07_texts_of_machines).prog w K mg base 3 "is_machine" 1 F_is_machine := by
  obtain ⟨fd, F⟩ := h.says.def_ 3 (d := dd "is_machine" 24) rfl
  exact fn_mk (lb := false) (tb := false) (wd := wdT) (N := ["value", "ribbon", "steps", "step", "stretch"]) (ps := ["value"]) (k := 2) h.gl F (h.glo "is_machine" (h.says.fact 3 (f := .glo "is_machine") rfl)) (by decide +kernel) (fun _ _ _ _ _ _ us hl => match us, hl with | [_], _ => rfl) (fns_cons (g_is_integer h base W) (fns_cons (g_is_stretch h base W) fns_nil (by decide)) (by decide)) need_no c_is_machine
theorem g_number_of : FnG (PySem.Challenge.rw_stampribbon_k07_texts_of_machines).prog w K mg base 1 "number_of" 1 F_number_of := by
  obtain ⟨fd, F⟩ := h.says.def_ 5 (d := dd "number_of" 28) rfl
  exact fn_mk (lb := false) (tb := false) (wd := wdT) (N := ["word", "sign"]) (ps := ["word"]) (k := 0) h.gl F (h.glo "number_of" (h.says.fact 5 (f := .glo "number_of") rfl)) (by decide +kernel) (fun _ _ _ _ _ _ us hl => match us, hl with | [_], _ => rfl) fns_nil need_no c_number_of
theorem g_read_machine : FnG (PySem.Challenge.rw_stampribbon_k07_texts_of_machines).prog w K mg base 4 "read_machine" 1 F_read_machine := by
  obtain ⟨fd, F⟩ := h.says.def_ 7 (d := dd "read_machine" 30) rfl
  exact fn_mk (lb := false) (tb := false) (wd := wdT) (N := ["value", "parts", "found", "ribbon", "word"]) (ps := ["value"]) (k := 3) h.gl F (h.glo "read_machine" (h.says.fact 7 (f := .glo "read_machine") rfl)) (by decide +kernel) (fun _ _ _ _ _ _ us hl => match us, hl with | [_], _ => rfl) (fns_cons (g_is_machine h base W) (fns_cons (g_number_of h base W) fns_nil (by decide)) (by decide)) need_no c_read_machine
theorem g__law_read : FnG (PySem.Challenge.rw_stampribbon_k07_texts_of_machines).prog w K mg base 6 "_law_read" 1 F__law_read := by
  obtain ⟨fd, F⟩ := h.says.def_ 27 (d := dd "_law_read" 51) rfl
  exact fn_mk (lb := false) (tb := true) (wd := wdT) (N := ["value", "error"]) (ps := ["value"]) (k := 5) h.gl F (h.glo "_law_read" (h.says.fact 27 (f := .glo "_law_read") rfl)) (by decide +kernel) (fun _ _ _ _ _ _ us hl => match us, hl with | [_], _ => rfl) (fns_cons (g_read_machine h base W) fns_nil (by decide)) ⟨fun _ => ⟨W, by decide⟩, fun z => by cases z⟩ c__law_read
theorem g__law_int : FnG (PySem.Challenge.rw_stampribbon_k07_texts_of_machines).prog w K mg base 1 "_law_int" 3 F__law_int := by
  obtain ⟨fd, F⟩ := h.says.def_ 16 (d := dd "_law_int" 40) rfl
  exact fn_mk (lb := false) (tb := false) (wd := wdT) (N := ["value", "low", "high"]) (ps := ["value", "low", "high"]) (k := 0) h.gl F (h.glo "_law_int" (h.says.fact 16 (f := .glo "_law_int") rfl)) (by decide +kernel) (fun _ _ _ _ _ _ us hl => match us, hl with | [_, _, _], _ => rfl) fns_nil need_no c__law_int
theorem g__law_good_machine : FnG (PySem.Challenge.rw_stampribbon_k07_texts_of_machines).prog w K mg base 2 "_law_good_machine" 1 F__law_good_machine := by
  obtain ⟨fd, F⟩ := h.says.def_ 17 (d := dd "_law_good_machine" 41) rfl
  exact fn_mk (lb := false) (tb := false) (wd := wdT) (N := ["value", "one"]) (ps := ["value"]) (k := 1) h.gl F (h.glo "_law_good_machine" (h.says.fact 17 (f := .glo "_law_good_machine") rfl)) (by decide +kernel) (fun _ _ _ _ _ _ us hl => match us, hl with | [_], _ => rfl) (fns_cons (g__law_int h base W) fns_nil (by decide)) need_no c__law_good_machine
theorem g__law_figures : FnG (PySem.Challenge.rw_stampribbon_k07_texts_of_machines).prog w K mg base 1 "_law_figures" 1 F__law_figures := by
  obtain ⟨fd, F⟩ := h.says.def_ 24 (d := dd "_law_figures" 48) rfl
  exact fn_mk (lb := false) (tb := false) (wd := wdT) (N := ["word", "sign"]) (ps := ["word"]) (k := 0) h.gl F (h.glo "_law_figures" (h.says.fact 24 (f := .glo "_law_figures") rfl)) (by decide +kernel) (fun _ _ _ _ _ _ us hl => match us, hl with | [_], _ => rfl) fns_nil need_no c__law_figures
theorem g__law_due : FnG (PySem.Challenge.rw_stampribbon_k07_texts_of_machines).prog w K mg base 3 "_law_due" 1 F__law_due := by
  obtain ⟨fd, F⟩ := h.says.def_ 25 (d := dd "_law_due" 49) rfl
  exact fn_mk (lb := false) (tb := false) (wd := wdT) (N := ["value", "words", "at", "ribbon", "machine", "word"]) (ps := ["value"]) (k := 2) h.gl F (h.glo "_law_due" (h.says.fact 25 (f := .glo "_law_due") rfl)) (by decide +kernel) (fun _ _ _ _ _ _ us hl => match us, hl with | [_], _ => rfl) (fns_cons (g__law_good_machine h base W) (fns_cons (g__law_figures h base W) fns_nil (by decide)) (by decide)) need_no c__law_due
theorem g_need_machine : FnG (PySem.Challenge.rw_stampribbon_k07_texts_of_machines).prog w K mg base 4 "need_machine" 1 F_need_machine := by
  obtain ⟨fd, F⟩ := h.says.def_ 4 (d := dd "need_machine" 25) rfl
  exact fn_mk (lb := false) (tb := false) (wd := wdT) (N := ["value"]) (ps := ["value"]) (k := 3) h.gl F (h.glo "need_machine" (h.says.fact 4 (f := .glo "need_machine") rfl)) (by decide +kernel) (fun _ _ _ _ _ _ us hl => match us, hl with | [_], _ => rfl) (fns_cons (g_is_machine h base W) fns_nil (by decide)) need_no c_need_machine
theorem g_machine_text : FnG (PySem.Challenge.rw_stampribbon_k07_texts_of_machines).prog w K mg base 5 "machine_text" 1 F_machine_text := by
  obtain ⟨fd, F⟩ := h.says.def_ 6 (d := dd "machine_text" 29) rfl
  exact fn_mk (lb := false) (tb := false) (wd := wdT) (N := ["machine", "ribbon", "colour", "size", "step"]) (ps := ["machine"]) (k := 4) h.gl F (h.glo "machine_text" (h.says.fact 6 (f := .glo "machine_text") rfl)) (by decide +kernel) (fun _ _ _ _ _ _ us hl => match us, hl with | [_], _ => rfl) (fns_cons (g_need_machine h base W) fns_nil (by decide)) need_no c_machine_text
theorem g__law_unwind : FnG (PySem.Challenge.rw_stampribbon_k07_texts_of_machines).prog w K mg base 1 "_law_unwind" 2 F__law_unwind := by
  obtain ⟨fd, F⟩ := h.says.def_ 9 (d := dd "_law_unwind" 33) rfl
  exact fn_mk (lb := false) (tb := false) (wd := wdT) (N := ["spool", "most", "wide", "part"]) (ps := ["spool", "most"]) (k := 0) h.gl F (h.glo "_law_unwind" (h.says.fact 9 (f := .glo "_law_unwind") rfl)) (by decide +kernel) (fun _ _ _ _ _ _ us hl => match us, hl with | [_, _], _ => rfl) fns_nil need_no c__law_unwind
theorem g__law_pick : FnG (PySem.Challenge.rw_stampribbon_k07_texts_of_machines).prog w K mg base 2 "_law_pick" 2 F__law_pick := by
  obtain ⟨fd, F⟩ := h.says.def_ 10 (d := dd "_law_pick" 34) rfl
  exact fn_mk (lb := false) (tb := false) (wd := wdT) (N := ["spool", "things"]) (ps := ["spool", "things"]) (k := 1) h.gl F (h.glo "_law_pick" (h.says.fact 10 (f := .glo "_law_pick") rfl)) (by decide +kernel) (fun _ _ _ _ _ _ us hl => match us, hl with | [_, _], _ => rfl) (fns_cons (g__law_unwind h base W) fns_nil (by decide)) need_no c__law_pick
theorem g__law_any_value_ : ∀ m, FnG (PySem.Challenge.rw_stampribbon_k07_texts_of_machines).prog w K mg base (2 + m + 1) "_law_any_value" 2 (F__law_any_value_ m) := by
  obtain ⟨fd, F⟩ := h.says.def_ 19 (d := dd "_law_any_value" 43) rfl
  have gx := h.glo "_law_any_value" (h.says.fact 19 (f := .glo "_law_any_value") rfl)
  intro m
  induction m with
  | zero => exact fn_no (ps := ["spool", "deep"]) F gx (fun _ _ _ _ _ _ us hl => match us, hl with | [_, _], _ => rfl)
  | succ m ih => exact fn_mk (lb := false) (tb := false) (wd := wdT) (N := ["spool", "deep", "some", "made", "part"]) (ps := ["spool", "deep"]) (k := 2 + m + 1) h.gl F gx (by decide +kernel) (fun _ _ _ _ _ _ us hl => match us, hl with | [_, _], _ => rfl) (fns_cons ih (fns_cons (g__law_unwind h base W) (fns_cons (g__law_pick h base W) fns_nil (by omega)) (by omega)) (Nat.le_refl _)) need_no (c__law_any_value _)
theorem g__law_any_value : FnG (PySem.Challenge.rw_stampribbon_k07_texts_of_machines).prog w K mg base 22 "_law_any_value" 2 F__law_any_value := (g__law_any_value_ h base W 19).mono (by decide)
theorem g__law_spoilt : FnG (PySem.Challenge.rw_stampribbon_k07_texts_of_machines).prog w K mg base 3 "_law_spoilt" 2 F__law_spoilt := by
  obtain ⟨fd, F⟩ := h.says.def_ 26 (d := dd "_law_spoilt" 50) rfl
  exact fn_mk (lb := false) (tb := false) (wd := wdT) (N := ["spool", "text", "words", "here", "some", "at", "way"]) (ps := ["spool", "text"]) (k := 2) h.gl F (h.glo "_law_spoilt" (h.says.fact 26 (f := .glo "_law_spoilt") rfl)) (by decide +kernel) (fun _ _ _ _ _ _ us hl => match us, hl with | [_, _], _ => rfl) (fns_cons (g__law_pick h base W) (fns_cons (g__law_unwind h base W) fns_nil (by decide)) (by decide)) need_no c__law_spoilt
theorem g__law_text : FnG (PySem.Challenge.rw_stampribbon_k07_texts_of_machines).prog w K mg base 1 "_law_text" 1 F__law_text := by
  obtain ⟨fd, F⟩ := h.says.def_ 23 (d := dd "_law_text" 47) rfl
  exact fn_mk (lb := false) (tb := false) (wd := wdT) (N := ["machine", "words", "colour", "size", "step"]) (ps := ["machine"]) (k := 0) h.gl F (h.glo "_law_text" (h.says.fact 23 (f := .glo "_law_text") rfl)) (by decide +kernel) (fun _ _ _ _ _ _ us hl => match us, hl with | [_], _ => rfl) fns_nil need_no c__law_text
theorem g__law_any_machine : FnG (PySem.Challenge.rw_stampribbon_k07_texts_of_machines).prog w K mg base 3 "_law_any_machine" 2 F__law_any_machine := by
  obtain ⟨fd, F⟩ := h.says.def_ 11 (d := dd "_law_any_machine" 35) rfl
  exact fn_mk (lb := false) (tb := false) (wd := wdT) (N := ["spool", "great", "ribbon", "turn", "steps", "size"]) (ps := ["spool", "great"]) (k := 2) h.gl F (h.glo "_law_any_machine" (h.says.fact 11 (f := .glo "_law_any_machine") rfl)) (by decide +kernel) (fun _ _ _ _ _ _ us hl => match us, hl with | [_, _], _ => rfl) (fns_cons (g__law_unwind h base W) (fns_cons (g__law_pick h base W) fns_nil (by decide)) (by decide)) need_no c__law_any_machine
theorem g__law_spool : FnG (PySem.Challenge.rw_stampribbon_k07_texts_of_machines).prog w K mg base 1 "_law_spool" 2 F__law_spool := by
  obtain ⟨fd, F⟩ := h.says.def_ 8 (d := dd "_law_spool" 32) rfl
  exact fn_mk (lb := false) (tb := false) (wd := wdT) (N := ["script", "k", "cell"]) (ps := ["script", "k"]) (k := 0) h.gl F (h.glo "_law_spool" (h.says.fact 8 (f := .glo "_law_spool") rfl)) (by decide +kernel) (fun _ _ _ _ _ _ us hl => match us, hl with | [_, _], _ => rfl) fns_nil need_no c__law_spool
end
theorem hd_of {w : World} {K : PySem.W.Frag} {h : Heap} {mg : Str → Option Value} (X : K.In h) (G : h.Ns mainGlobals mg) (c : He.SaysD faL fnL K) : Hd w K mg where
  says := c
  glo := fun x q => He.glo_ok X G q
  gl := {
    cst := fun x p hm => by
      simp only [cstL, List.mem_cons, List.not_mem_nil, or_false, Prod.mk.injEq] at hm
      rcases hm with ⟨rfl, rfl⟩ | ⟨rfl, rfl⟩ | ⟨rfl, rfl⟩ | ⟨rfl, rfl⟩
      · obtain ⟨t, e⟩ := He.int_ok X G (c.fact 45 (f := .int "GREAT" (10 ^ 30)) rfl); exact cst_int e
      · obtain ⟨t, e⟩ := He.str_ok X G (c.fact 46 (f := .str "COLOURS" "bgr") rfl); exact cst_str e
      · obtain ⟨t, e⟩ := He.int_ok X G (c.fact 47 (f := .int "MOST_STRETCHES" (6)) rfl); exact cst_int e
      · obtain ⟨t, e⟩ := He.int_ok X G (c.fact 48 (f := .int "MOST_FIGURES" (31)) rfl); exact cst_int e
    blt := fun x hm => by
      simp only [bltN, List.mem_cons, List.not_mem_nil, or_false] at hm
      rcases hm with rfl | rfl | rfl | rfl | rfl | rfl | rfl | rfl | rfl | rfl | rfl | rfl | rfl | rfl | rfl | rfl
      · exact He.free_ok X G (c.fact 29 (f := .free "isinstance") rfl)
      · exact He.free_ok X G (c.fact 30 (f := .free "len") rfl)
      · exact He.free_ok X G (c.fact 31 (f := .free "abs") rfl)
      · exact He.free_ok X G (c.fact 32 (f := .free "max") rfl)
      · exact He.free_ok X G (c.fact 33 (f := .free "min") rfl)
      · exact He.free_ok X G (c.fact 34 (f := .free "sum") rfl)
      · exact He.free_ok X G (c.fact 35 (f := .free "all") rfl)
      · exact He.free_ok X G (c.fact 36 (f := .free "sorted") rfl)
      · exact He.free_ok X G (c.fact 37 (f := .free "int") rfl)
      · exact He.free_ok X G (c.fact 38 (f := .free "str") rfl)
      · exact He.free_ok X G (c.fact 39 (f := .free "tuple") rfl)
      · exact He.free_ok X G (c.fact 40 (f := .free "list") rfl)
      · exact He.free_ok X G (c.fact 41 (f := .free "bool") rfl)
      · exact He.free_ok X G (c.fact 42 (f := .free "range") rfl)
      · exact He.free_ok X G (c.fact 43 (f := .free "zip") rfl)
      · exact He.free_ok X G (c.fact 44 (f := .free "enumerate") rfl)
    exc := fun x hm => by
      simp only [excL, List.mem_cons, List.not_mem_nil, or_false] at hm
      rcases hm with rfl | rfl
      · exact exc_g (He.glo_ok X G (c.fact 49 (f := .glo "InvalidMachine") rfl)) (c.fact 50 (f := .exc "InvalidMachine") rfl)
      · exact exc_g (He.glo_ok X G (c.fact 51 (f := .glo "InvalidText") rfl)) (c.fact 52 (f := .exc "InvalidText") rfl)
  }
theorem ex_of {K : PySem.W.Frag} (e : exB K = true) : TK K = tfT K ∧ ((TK K).map (·.1)).Nodup ∧ (∀ x ∈ lamDefs, hasG K x = true → (x, none) ∈ tfL) ∧ ∀ q ∈ wdL, errB K q.1 = true := by
  unfold exB at e
  simp only [Bool.and_eq_true, decide_eq_true_eq, List.all_eq_true, beq_iff_eq] at e
  obtain ⟨e1, e2, e3, e4⟩ := e
  refine ⟨e1, e2, fun x hx hg => ?_, e4⟩
  have := (e3 x hx).trans hg
  rw [List.contains_iff_mem] at this
  simp only [tfL, List.map_cons, List.map_nil, List.mem_cons, List.not_mem_nil, or_false] at this ⊢
  rcases this with rfl <;> simp
theorem w_of {w : World} {K : PySem.W.Frag} {h base : Heap} {mg : Str → Option Value} (X : K.In h) (G : h.Ns mainGlobals mg) (c : He.SaysD faL fnL K) (e : exB K = true) (TB : ∀ p ∈ tfL.map (He.cT K), LamX.TabB base mg p.1 p.2) : WOk (PySem.Challenge.rw_stampribbon_k07_texts_of_machines).prog w K mg base wdT := by
  obtain ⟨e1, e2, e3, e4⟩ := ex_of e
  have hd := hd_of (w := w) X G c
  obtain ⟨fd, F⟩ := c.def_ 21 (d := dd "_law_names" 45) rfl
  obtain ⟨fd2, F2⟩ := c.def_ 22 (d := dd "_law_word" 46) rfl
  have ng := names_mk (P := (PySem.Challenge.rw_stampribbon_k07_texts_of_machines).prog) (w := w) (base := base) (N := namesN) (mu0 := ["some"]) (wd := wdT) (n := 60) (b := b__law_names) (a1 := "error") F (hd.glo "_law_names" (c.fact 21 (f := .glo "_law_names") rfl)) (by decide +kernel) (hd.gl.blt _ (by decide)) (hd.gl.blt _ (by decide))
    (fun _ _ _ _ _ _ us hl => match us, hl with | [_], _ => rfl) c__law_names (fun a0 c z M hz => names_eval hz)
  have wg : WordG (PySem.Challenge.rw_stampribbon_k07_texts_of_machines).prog w K mg base wdT (He.ga K "_law_names") := ⟨ng, fun k z hz => ⟨_, errB_ok X G (e4 _ (assoc_ok hz))⟩, ⟨_, He.glo_ok X G (c.fact 53 (f := .glo "RibbonError") rfl)⟩⟩
  refine ⟨⟨_, wg⟩, ?_, fun x hx hg => TB _ (List.mem_map.mpr ⟨(x, none), e3 x hx hg, rfl⟩), e2⟩
  obtain ⟨p, j, hb⟩ := isWB_ok wb_
  exact word_all (N := ["call", "error"]) (i := 1) wg F2 hb (hd.glo "_law_word" (c.fact 22 (f := .glo "_law_word") rfl)) (by decide +kernel) (fun _ _ _ _ _ _ us hl => match us, hl with | [_], _ => rfl) (by decide +kernel) (by decide +kernel) rfl (by decide +kernel) (by decide) (by decide) (by decide +kernel) rfl
theorem holds_of (hl : ∀ ns : List Int, ns.length ≤ 63 → ∃ M, F_law [.p (.scr ns)] [] = .ok (.p (.bl true)) M) : PySem.Challenge.rw_stampribbon_k07_texts_of_machines.Holds := by
  w_on; o_law
  refine HandSHeadRun.head_any (r := PySem.W.OpenLaw.row PySem.Challenge.rw_stampribbon_k07_texts_of_machines) (q := PySem.W.view (PySem.W.OpenLaw.row PySem.Challenge.rw_stampribbon_k07_texts_of_machines).prog [52]) (H := hk) (ob := ob) (M := 20000) (loose := looseL) (d := HandSHeadRun.topDef (PySem.W.OpenLaw.row PySem.Challenge.rw_stampribbon_k07_texts_of_machines).prog 52) (kwd := []) ob_eq
    (by kernel_rfl) (fun s => by kernel_rfl) run_ (by kernel_rfl) (by kernel_rfl) (by kernel_rfl) (by rfl) (by first | assumption | decide +kernel) (by decide +kernel) ⟨rfl, rfl, rfl, rfl, rfl, by decide +kernel⟩ ?hw ?hc
  case hw => w_witness2
  case hc =>
    refine LamX.walk_ofTsE (l := PySem.Challenge.rw_stampribbon_k07_texts_of_machines) (n := 63) (k := 25) (x := "script") (CX := fun w => L2N.CX (PySem.Challenge.rw_stampribbon_k07_texts_of_machines).prog w) rfl (by decide) (by kernel_rfl) ⟨rfl, by decide, by decide⟩ ?F (fun w H s e s' z => by
      obtain ⟨_, _, _, _, _, _, _, _, _, _, _, _, _, z⟩ := z)
    intro w mg fa h Y G hmg0
    obtain ⟨K, KX, c⟩ := Y
    refine ⟨K, KX, ?_⟩
    have hmg : mg ("law" : PySem.Str) = some (.ref fa) := by
      have e : (HandSHeadRun.topDef (PySem.W.OpenLaw.row PySem.Challenge.rw_stampribbon_k07_texts_of_machines).prog 52).name = ("law" : PySem.Str) := by kernel_rfl
      rw [← e]
      exact hmg0
    have cd : He.SaysD faL fnL K := c.t.d
    have hd := hd_of (w := w) KX G cd
    obtain ⟨e1, e2, e3, e4⟩ := ex_of c.more
    obtain ⟨fd, F⟩ := cd.def_ 28 (d := dd "law" 52) rfl
    have e := hmg.symm.trans (hd.glo "law" (cd.fact 28 (f := .glo "law") rfl))
    cases e
    have b := FunD.bindsA (ps := ["script"]) F fun _ _ _ _ _ _ us hl => match us, hl with | [_], _ => rfl
    refine ⟨fd, tfL.map (He.cT K), spOf ⟨mg, K⟩ 1 F_law, fun p hp => ?_, fun p hp => ?_, fun p hp => ?_, fun s v => b s [v] rfl, fun H a ns hl' _ hT hS => law_sp (K := K) (mg := mg) hl hl' ?_ hS, fun base KB GB TB => ?_⟩
    · obtain ⟨q, hq, rfl⟩ := List.mem_map.mp hp
      exact c.empty q hq
    · obtain ⟨q, hq, rfl⟩ := List.mem_map.mp hp
      exact c.out q hq
    · obtain ⟨q, hq, rfl⟩ := List.mem_map.mp hp
      exact PySem.W.codeHd_of_K KX (c.hd q hq)
    · refine tbs_start fun p hp => ?_
      have hp : p ∈ tfT K := by rw [← e1]; exact hp
      obtain ⟨q, hq, rfl⟩ := List.mem_map.mp hp
      exact hT _ (List.mem_map.mpr ⟨q, hq, rfl⟩)
    · have W := w_of (w := w) KX G cd c.more TB
      exact fn_ok (lb := true) (tb := false) (wd := wdT) (N := ["script", "k", "rows", "spool", "great", "odd", "machine", "text", "spoilt", "turn", "value"]) (ps := ["script"]) (k := 24) hd.gl F (by decide +kernel) (fns_cons (g_read_machine hd base W) (fns_cons (g__law_read hd base W) (fns_cons (g__law_due hd base W) (fns_cons (g_machine_text hd base W) (fns_cons (g__law_good_machine hd base W) (fns_cons (g__law_any_value hd base W) (fns_cons (g__law_spoilt hd base W) (fns_cons (g__law_text hd base W) (fns_cons (g__law_any_machine hd base W) (fns_cons (g__law_spool hd base W) fns_nil (by decide)) (by decide)) (by decide)) (by decide)) (by decide)) (by decide)) (by decide)) (by decide)) (by decide)) (by decide)) ⟨fun _ => ⟨W, by decide⟩, fun _ => ⟨by decide, hasG_of (cd.fact 28 (f := .glo "law") rfl), rfl, 22, by decide, by decide, (fns_cons (g_read_machine hd base W) (fns_cons (g__law_read hd base W) (fns_cons (g__law_due hd base W) (fns_cons (g_machine_text hd base W) (fns_cons (g__law_good_machine hd base W) (fns_cons (g__law_any_value hd base W) (fns_cons (g__law_spoilt hd base W) (fns_cons (g__law_text hd base W) (fns_cons (g__law_any_machine hd base W) (fns_cons (g__law_spool hd base W) fns_nil (by decide)) (by decide)) (by decide)) (by decide)) (by decide)) (by decide)) (by decide)) (by decide)) (by decide)) (by decide))⟩⟩ c_law
end Ev

set_option linter.all false
set_option maxRecDepth 100000
set_option maxHeartbeats 4000000
/-! Spec1: what the defs of machines do to a machine. -/
namespace Ev
open PySem
def isLet (s l : Str) : Bool := match s.cps.toList with
  | [c] => decide (c ∈ l.cps.toList)
  | _ => false
def stP (x : Str × Int) : P := .tup [.str x.1, .int x.2]
def machP (rb : List (Str × Int)) (st : List Int) : P := .tup [.tup (rb.map stP), .tup (st.map P.int)]
structure MOk (rb : List (Str × Int)) (st : List Int) : Prop where
  l1 : 1 ≤ rb.length
  l2 : rb.length ≤ 6
  c : ∀ x ∈ rb, isLet x.1 "bgr" = true ∧ 1 ≤ x.2 ∧ x.2 ≤ GRT
  s1 : st.length = 2 ∨ st.length = 3
  s2 : ∀ s ∈ st, 0 ≤ s ∧ s ≤ 9
theorem str_len {s : Str} : s.length = s.cps.toList.length := by
  show s.cps.size = _
  simp
theorem isLet_len {s l : Str} (h : isLet s l = true) : ∃ c, s = ⟨#[c]⟩ ∧ c ∈ l.cps.toList := by
  unfold isLet at h
  split at h
  · rename_i c e
    exact ⟨c, one_sign e, by simpa using h⟩
  · cases h
theorem sp_is_integer {v lo hi : Int} {M : Sto} : F_is_integer [.p (.int v), .p (.int lo), .p (.int hi)] M = .ok (.p (.bl (decide (lo ≤ v) && decide (v ≤ hi)))) M := by
  unfold F_is_integer b_is_integer
  rw [fnB3]
  by_cases h1 : lo ≤ v <;> by_cases h2 : v ≤ hi <;> simp [h1, h2]
theorem oIn_s {c : Nat} {l : Str} : oIn (.str ⟨#[c]⟩) (.str l) = some (.p (.bl (decide (c ∈ l.cps.toList)))) := rfl
theorem sp_is_letter {s l : Str} {M : Sto} (hs : isLet s l = true) : F_is_letter [.p (.str s), .p (.str l)] M = .ok (.p (.bl true)) M := by
  obtain ⟨c, rfl, hc⟩ := isLet_len hs
  unfold F_is_letter b_is_letter
  rw [fnB2]
  have e : cLen [.str (⟨#[c]⟩ : Str)] = some (.p (.int 1)) := rfl
  simp [e, oIn_s, hc]
theorem atI0 {α : Type} {a : α} {l : List α} : L2.atI (a :: l) (0 : Int) = some a := by simp [L2.atI, L2.ixN]
theorem atI1 {α : Type} {a b : α} {l : List α} : L2.atI (a :: b :: l) (1 : Int) = some b := by
  have : (1 : Int) < (l.length : Int) + 1 + 1 := by omega
  simp [L2.atI, L2.ixN, this]
@[simp] theorem oIx0 {a : P} {l : List P} : oIx (.tup (a :: l)) (.int 0) = some (.p a) := by
  show (L2.atI _ _).map _ = _
  rw [atI0]; rfl
@[simp] theorem oIx1 {a b : P} {l : List P} : oIx (.tup (a :: b :: l)) (.int 1) = some (.p b) := by
  show (L2.atI _ _).map _ = _
  rw [atI1]; rfl
theorem sp_is_stretch {x : Str × Int} {M : Sto} (hs : isLet x.1 "bgr" = true) (h1 : 1 ≤ x.2) (h2 : x.2 ≤ GRT) : F_is_stretch [.p (stP x)] M = .ok (.p (.bl true)) M := by
  unfold F_is_stretch b_is_stretch stP
  rw [fnB1]
  simp [sp_is_letter hs, sp_is_integer, h1, h2]
theorem lim_big : 1000 ≤ lim := by decide
theorem sp_is_machine {rb : List (Str × Int)} {st : List Int} {M : Sto} (h : MOk rb st) : F_is_machine [.p (machP rb st)] M = .ok (.p (.bl true)) M := by
  unfold F_is_machine b_is_machine machP
  rw [fnB1]
  have hl := lim_big
  have e1 : ∀ σ : Fr, σ[1]? = some (some (.p (.tup (rb.map stP)))) → 4 < σ.length → ∀ M, eLc (.nm 4) [4] (iOf (eVar 1)) bYes (eCall 1 F_is_stretch (aCons (eVar 4) aNil)) σ M = .ok (.nw (List.replicate rb.length (.bl true))) M := by
    intro σ h1 h4 M
    rw [show List.replicate rb.length (P.bl true) = (rb.map stP).map (fun _ => P.bl true) by rw [List.map_const', List.length_map]]
    refine eLc_map (fun _ => .bl true) (by simp [h1]) rfl (fun p hp => ?_) (by have := h.l2; simp; omega)
    obtain ⟨x, hx, rfl⟩ := List.mem_map.mp hp
    obtain ⟨c1, c2, c3⟩ := h.c x hx
    refine ⟨_, x_nm, fun M' => ⟨.p (.bl true), ?_, rfl⟩⟩
    simp [wipeF, h4, sp_is_stretch c1 c2 c3]
  have e2 : ∀ σ : Fr, σ[2]? = some (some (.p (.tup (st.map P.int)))) → 3 < σ.length → ∀ M, eLc (.nm 3) [3] (iOf (eVar 2)) bYes (eCall 3 F_is_integer (aCons (eVar 3) (aCons (eC (.int 0)) (aCons (eC (.int 9)) aNil)))) σ M = .ok (.nw (List.replicate st.length (.bl true))) M := by
    intro σ h1 h4 M
    rw [show List.replicate st.length (P.bl true) = (st.map P.int).map (fun _ => P.bl true) by rw [List.map_const', List.length_map]]
    refine eLc_map (fun _ => .bl true) (by simp [h1]) rfl (fun p hp => ?_) (by have := h.s1; simp; omega)
    obtain ⟨x, hx, rfl⟩ := List.mem_map.mp hp
    obtain ⟨c1, c2⟩ := h.s2 x hx
    refine ⟨_, x_nm, fun M' => ⟨.p (.bl true), ?_, rfl⟩⟩
    simp [wipeF, h4, sp_is_integer, c1, c2]
  have a1 : ∀ n : Nat, cAll [.lst (List.replicate n (P.bl true))] = some (.p (.bl true)) := by
    intro n
    rw [show List.replicate n (P.bl true) = (List.replicate n true).map P.bl by simp, cAll_map]
    simp
  have n1 : (1 : Int) ≤ rb.length := by have := h.l1; omega
  have n2 : (rb.length : Int) ≤ 6 := by have := h.l2; omega
  have n3 : oNotIn (.int st.length) (.tup [.int 2, .int 3]) = some (.p (.bl false)) := by
    rcases h.s1 with e | e <;> rw [e] <;> rfl
  have hl2 : 2 ≤ lim := by omega
  simp [e1, e2, a1, n1, n2, n3, hl2]
end Ev


set_option linter.all false
set_option maxRecDepth 100000
set_option maxHeartbeats 4000000
/-! Spec2: signs, steps, standings, colours, arcs. -/
namespace Ev
open PySem
abbrev cs (z : Str) : List Nat := z.cps.toList
abbrev sg (c : Nat) : Str := ⟨#[c]⟩
def sgs (st : List Int) : List Nat := [120, 121, 122].take st.length
def lenS (rb : List (Str × Int)) : Int := (rb.map (·.2)).sum
def stepS (st : List Int) (c : Nat) : Int := (([120, 121, 122].zip st).filterMap fun x => if x.1 = c then some x.2 else none).sum
def stepsS (st : List Int) (l : List Nat) : Int := (l.map (stepS st)).sum
structure LOk (st : List Int) (l : Str) : Prop where
  ne : cs l ≠ []
  le : (cs l).length ≤ 40
  mem : ∀ c ∈ cs l, c ∈ sgs st
theorem ts {M : Sto} {n : Nat} (h : n = M.length) : M.take n = M := by rw [h, List.take_length]
@[simp] theorem ts' {M : Sto} : M.take M.length = M := List.take_length
@[simp] theorem oIx0m {rb : List (Str × Int)} {st : List Int} : oIx (machP rb st) (.int 0) = some (.p (.tup (rb.map stP))) := by unfold machP; simp
@[simp] theorem oIx1m {rb : List (Str × Int)} {st : List Int} : oIx (machP rb st) (.int 1) = some (.p (.tup (st.map P.int))) := by unfold machP; simp
@[simp] theorem mulOk2 {j : Int} : mulOk 2 j = true := by
  have : (decide (-(2 ^ 64) < (2 : Int)) && decide ((2 : Int) < 2 ^ 64)) = true := by decide
  unfold mulOk
  rw [this]; rfl
@[simp] theorem oMul2 {j : Int} : oMul (.int 2) (.int j) = some (.p (.int (2 * j))) := by
  show (if mulOk 2 j = true then some (D.p (.int (2 * j))) else none) = _
  rw [mulOk2]; rfl
theorem a1n {n : Nat} : cAll [.lst (List.replicate n (P.bl true))] = some (.p (.bl true)) := by
  rw [show List.replicate n (P.bl true) = (List.replicate n true).map P.bl by simp, cAll_map]
  simp
theorem rep_map {α : Type} {l : List α} {p : P} : List.replicate l.length p = l.map (fun _ => p) := by rw [List.map_const']
theorem len_cs {z : Str} : z.length = (cs z).length := by
  show z.cps.size = _
  simp
end Ev


set_option linter.all false
set_option maxRecDepth 100000
set_option maxHeartbeats 4000000
/-! Spec3: places, colours, arcs, what is needed. -/
namespace Ev
open PySem
theorem MOk.ll {rb : List (Str × Int)} {st : List Int} (h : MOk rb st) : rb.length ≤ lim := by have := h.l2; have := lim_big; omega
theorem LOk.ll {st : List Int} {l : Str} (h : LOk st l) : (cs l).length ≤ lim := by have := h.le; have := lim_big; omega
theorem lenS_pos {rb : List (Str × Int)} (h : ∀ x ∈ rb, 1 ≤ x.2) (hl : 1 ≤ rb.length) : (rb.length : Int) ≤ lenS rb := by
  unfold lenS
  induction rb with
  | nil => simp at hl
  | cons a r ih =>
    cases r with
    | nil => have := h a List.mem_cons_self; simp; omega
    | cons b r =>
      have h1 := h a List.mem_cons_self
      have h2 := ih (fun x hx => h x (List.mem_cons_of_mem _ hx)) (by simp)
      simp at h2 ⊢
      omega
theorem MOk.pos {rb : List (Str × Int)} {st : List Int} (h : MOk rb st) : 0 < lenS rb := by
  have := lenS_pos (fun x hx => (h.c x hx).2.1) h.l1
  have := h.l1
  omega
def placeS (rb : List (Str × Int)) (s : Int) : Int := if s < lenS rb then s else 2 * lenS rb - 1 - s
/-- the colour of the first stretch that reaches beyond left -/
def colS : List (Str × Int) → Int → Str
  | [], _ => ""
  | (c, n) :: r, left => if left < n then c else colS r (left - n)
def bodyC : EvS := (sSeq (sIf (bAnd (bOf (eBin oEq (eVar 3) (eC (.str "")))) (bOf (eBin oLt (eVar 2) (eVar 5)))) (sSeq (sSet 3 (eVar 4))
    sNil) sNil)
    (sSeq (sAug 2 oSub (eVar 5))
    sNil))
theorem colour_loop {m s : Option D} {M : Sto} : ∀ (rb : List (Str × Int)) (left : Int) (found : Str) (x y : Option D), (∀ a ∈ rb, a.1 ≠ "") →
    ∃ l x' y', forL (.tu [(.nm 4), (.nm 5)]) bodyC (rb.map stP) [m, s, some (.p (.int left)), some (.p (.str found)), x, y] M =
      .ok (.nx [m, s, some (.p (.int l)), some (.p (.str (if found = "" then colS rb left else found))), x', y']) M
  | [], left, found, x, y, _ => ⟨left, x, y, by
      rw [show ([] : List (Str × Int)).map stP = [] from rfl, forL]
      by_cases h : found = "" <;> simp [h, colS]⟩
  | (c, n) :: r, left, found, x, y, hne => by
    have hc : c ≠ "" := hne _ List.mem_cons_self
    by_cases h1 : found = ""
    · by_cases h2 : left < n
      · obtain ⟨l, x', y', e⟩ := colour_loop r (left - n) c (some (.p (.str c))) (some (.p (.int n))) fun a ha => hne a (List.mem_cons_of_mem _ ha)
        refine ⟨l, x', y', ?_⟩
        rw [if_neg hc] at e
        rw [List.map_cons, forL]
        simp [stP, bodyC, h1, h2, colS]
        simpa [bodyC] using e
      · obtain ⟨l, x', y', e⟩ := colour_loop r (left - n) found (some (.p (.str c))) (some (.p (.int n))) fun a ha => hne a (List.mem_cons_of_mem _ ha)
        refine ⟨l, x', y', ?_⟩
        rw [if_pos h1] at e
        rw [List.map_cons, forL]
        simp [stP, bodyC, h1, h2, colS]
        simpa [bodyC, h1] using e
    · obtain ⟨l, x', y', e⟩ := colour_loop r (left - n) found (some (.p (.str c))) (some (.p (.int n))) fun a ha => hne a (List.mem_cons_of_mem _ ha)
      refine ⟨l, x', y', ?_⟩
      rw [if_neg h1] at e ⊢
      rw [List.map_cons, forL]
      simp [stP, bodyC, h1]
      simpa [bodyC] using e
theorem col_ne {s l : Str} (h : isLet s l = true) : s ≠ "" := by
  obtain ⟨c, rfl, _⟩ := isLet_len h
  intro z
  have h1 := congrArg (fun s : Str => s.cps.size) z
  have h0 : ("" : Str).cps.size = 0 := by decide +kernel
  dsimp only at h1
  rw [h0] at h1
  simp at h1
/-! ### arcs -/
/-- the stretches of a colour: begin, size -/
def rowsS (col : Str) : List (Str × Int) → Int → List (Int × Int)
  | [], _ => []
  | (c, n) :: r, b => if c = col then (b, n) :: rowsS col r (b + n) else rowsS col r (b + n)
def arcsS (rb : List (Str × Int)) (col : Str) : List (Int × Int) :=
  (rowsS col rb 0).map (fun x => (x.1, x.1 + x.2 - 1)) ++ (rowsS col rb 0).map (fun x => (2 * lenS rb - x.1 - x.2, 2 * lenS rb - 1 - x.1))
def prP (x : Int × Int) : P := .tup [.int x.1, .int x.2]
def begS (rb : List (Str × Int)) : List Int := (List.range rb.length).map fun i => lenS (rb.take i)
theorem rows_zip (col : Str) : ∀ (rb : List (Str × Int)) (b : Int), rowsS col rb b = (((List.range rb.length).map fun i => b + lenS (rb.take i)).zip rb).filterMap fun x => if x.2.1 = col then some (x.1, x.2.2) else none
  | [], _ => rfl
  | (c, n) :: r, b => by
    have ih := rows_zip col r (b + n)
    have e : (List.range (r.length + 1)).map (fun i => b + lenS (((c, n) :: r).take i)) = b :: (List.range r.length).map (fun i => b + n + lenS (r.take i)) := by
      rw [List.range_succ_eq_map]
      simp [lenS, Function.comp_def]
      intro i hi
      omega
    rw [List.length_cons, e, List.zip_cons_cons, List.filterMap_cons]
    by_cases h : c = col
    · simp [rowsS, h, ih]
    · simp [rowsS, h, ih]
theorem rows_len (col : Str) : ∀ (rb : List (Str × Int)) (b : Int), (rowsS col rb b).length ≤ rb.length
  | [], _ => Nat.le_refl _
  | (c, n) :: r, b => by
    have := rows_len col r (b + n)
    unfold rowsS
    split <;> simp <;> omega
theorem cutP_take {ps : List P} {i : Nat} : cutP ps none (some (i : Int)) = ps.take i := by
  unfold cutP
  rw [HT.sIx_nat, HT.sIx_none]
  simp [Nat.min_comm, List.take_eq_take_iff]
theorem rg_ok {n : Nat} (h : n ≤ lim) : rgOk (n : Int) = true := by
  have h2 : (lim : Int) < 2 ^ 62 := by decide
  have h3 : -(2 ^ 62) ≤ (0 : Int) := by decide
  have h4 : (n : Int) ≤ (lim : Int) := Int.ofNat_le.mpr h
  unfold rgOk
  rw [Bool.and_eq_true, decide_eq_true_eq, decide_eq_true_eq]
  exact ⟨Int.le_trans h3 (Int.natCast_nonneg _), Int.lt_of_le_of_lt h4 h2⟩
theorem arcs_e2 {rb : List (Str × Int)} (hl : rb.length ≤ lim) {σ : Fr} {i : Nat} (h5 : σ[5]? = some (some (.p (.tup (rb.map stP))))) (h7 : σ[7]? = some (some (.p (.int (i : Int))))) (h10 : 10 < σ.length) (M : Sto) :
    eLc (.tu [(.nm 10), (.nm 9)]) [10, 9] (iOf (eSl (eVar 5) sNone (sSome (eVar 7)))) bYes (eVar 9) σ M = .ok (.nw (((rb.take i).map (·.2)).map P.int)) M := by
  have h9 : 9 < σ.length := by omega
  have hq : ((rb.take i).map (·.2)).map P.int = ((rb.take i).map stP).map (fun p => match p with | .tup [_, x] => x | _ => .non) := by
    rw [List.map_map, List.map_map]; rfl
  rw [hq]
  have hc : cutP (rb.map stP) none (some (i : Int)) = (rb.take i).map stP := by rw [cutP_take, List.map_take]
  refine eLc_map _ (by simp [eSl, sNone, sSome, h7, h5, oSl, hc]) rfl (fun p hp => ?_) (by simp; omega)
  obtain ⟨x, hx, rfl⟩ := List.mem_map.mp hp
  refine ⟨_, by simp [stP]; rfl, fun M' => ⟨.p (.int x.2), ?_, rfl⟩⟩
  simp [wipeF, h9]
theorem arcs_e1 {rb : List (Str × Int)} (hl : rb.length ≤ lim) {σ : Fr} (h5 : σ[5]? = some (some (.p (.tup (rb.map stP))))) (h10 : 10 < σ.length) (M : Sto) :
    eLc (.nm 7) [7] (iRange1 (aCons (eCB cLen (aCons (eVar 5) aNil)) aNil)) bYes (eCB cSum (aCons (eLc (.tu [(.nm 10), (.nm 9)]) [10, 9] (iOf (eSl (eVar 5) sNone (sSome (eVar 7)))) bYes (eVar 9)) aNil)) σ M = .ok (.nw ((begS rb).map P.int)) M := by
  have hr := rg_ok hl
  have h7 : 7 < σ.length := by omega
  have hq : (begS rb).map P.int = (rgs 0 rb.length).map (fun p => match p with | .int i => .int (lenS (rb.take i.toNat)) | _ => .non) := by
    simp [begS, rgs, Function.comp_def]
  rw [hq]
  refine eLc_map _ (by simp [iRange1, h5, hr]) rfl (fun p hp => ?_) (by simp [rgs]; omega)
  obtain ⟨i, hi, rfl⟩ := List.mem_map.mp hp
  refine ⟨_, x_nm, fun M' => ⟨.p (.int (lenS (rb.take i))), ?_, by simp⟩⟩
  have e2 := arcs_e2 (rb := rb) hl (σ := (wipeF σ [7]).set 7 (some (.p (.int (0 + (i : Int)))))) (i := i) (by simp [wipeF, h5]) (by simp [wipeF, h7]) (by simp [wipeF]; omega) M'
  simp only [x_eCB, x_aCons, x_aNil]
  rw [e2]
  simp only [Out.bind, x_valn, x_getL, x_getL0, x_get, cSum_map]
  rfl
def rowF (col : Str) : P → Option P
  | .tup [b, .tup [.str c, n]] => if c = col then some (.tup [b, n]) else none
  | _ => none
theorem arcs_e3 {rb : List (Str × Int)} {col : Str} (hl : rb.length ≤ lim) {σ : Fr} (h2 : σ[2]? = some (some (.p (.lst ((begS rb).map P.int))))) (h5 : σ[5]? = some (some (.p (.tup (rb.map stP))))) (h1 : σ[1]? = some (some (.p (.str col)))) (h10 : 10 < σ.length) (M : Sto) :
      eLc (.tu [(.nm 8), (.tu [(.nm 10), (.nm 9)])]) [8, 10, 9] (iZip (aCons (eVar 2) (aCons (eVar 5) aNil))) (bOf (eBin oEq (eVar 10) (eVar 1))) (eTup (aCons (eVar 8) (aCons (eVar 9) aNil))) σ M = .ok (.nw ((rowsS col rb 0).map prP)) M := by
  have h9 : 9 < σ.length := by omega
  have h8 : 8 < σ.length := by omega
  have r2 : 2 ≤ lim := Nat.le_trans (by decide) lim_big
  have hz : (List.zipWith (fun x y => P.tup [x, y]) ((begS rb).map P.int) (rb.map stP)) = ((begS rb).zip rb).map fun x => P.tup [.int x.1, stP x.2] := by
    rw [List.zipWith_map, List.zip, List.map_zipWith]
  have hr : (rowsS col rb 0).map prP = (((begS rb).zip rb).map fun x => P.tup [.int x.1, stP x.2]).filterMap (rowF col) := by
    rw [rows_zip, List.filterMap_map, List.map_filterMap]
    have : ((List.range rb.length).map fun i => (0 : Int) + lenS (rb.take i)) = begS rb := by simp [begS]
    rw [this]
    congr 1
    funext x
    by_cases hx : x.2.1 = col <;> simp [rowF, stP, hx, prP]
  rw [hr, ← hz]
  refine eLc_pure (rowF col) (by simp [iZip, h2, h5, P.items]) rfl (fun p hp => ?_) (by simp [begS]; omega)
  rw [hz] at hp
  obtain ⟨x, hx, rfl⟩ := List.mem_map.mp hp
  refine ⟨_, by simp [stP]; rfl, fun M' => ⟨?_, fun q hq => ?_⟩⟩
  · by_cases hx : x.2.1 = col <;> simp [rowF, stP, hx, wipeF, h10, h1]
  · simp only [rowF, stP] at hq
    split at hq
    · cases hq
      exact ⟨.p (.tup [.int x.1, .int x.2.2]), by simp [wipeF, h8, h9, r2], rfl⟩
    · cases hq
theorem arcs_e4 {rws : List (Int × Int)} (hl : rws.length ≤ lim) {σ : Fr} {g : EvD} {k : Int × Int → Int × Int} (h3 : σ[3]? = some (some (.p (.lst (rws.map prP))))) (h10 : 10 < σ.length)
    (hg : ∀ (x : Int × Int) M', ∃ d, g ((((wipeF σ [8, 9]).set 8 (some (.p (.int x.1)))).set 9 (some (.p (.int x.2))))) M' = .ok d M' ∧ d.val = .p (prP (k x))) (M : Sto) :
      eLc (.tu [(.nm 8), (.nm 9)]) [8, 9] (iOf (eVar 3)) bYes g σ M = .ok (.nw ((rws.map k).map prP)) M := by
  have hq : (rws.map k).map prP = (rws.map prP).map (fun p => match p with | .tup [.int a, .int b] => prP (k (a, b)) | _ => .non) := by
    rw [List.map_map, List.map_map]; rfl
  rw [hq]
  refine eLc_map _ (by simp [h3]) rfl (fun p hp => ?_) (by simpa using hl)
  obtain ⟨x, hx, rfl⟩ := List.mem_map.mp hp
  exact ⟨_, by simp [prP], fun M' => hg x M'⟩
theorem oAdd_l {a b : List P} (h : a.length + b.length ≤ lim) : oAdd (.lst a) (.lst b) = some (.nw (a ++ b)) := if_pos h
end Ev


set_option linter.all false
set_option maxRecDepth 100000
set_option maxHeartbeats 4000000
/-! Spec4: needs, standings, the divisor. -/
namespace Ev
open PySem
section
variable {rb : List (Str × Int)} {st : List Int} {M : Sto}
theorem sp_need_machine (h : MOk rb st) : F_need_machine [.p (machP rb st)] M = .ok (.p .non) M := by
  unfold F_need_machine b_need_machine
  rw [fnB1]
  simp [sp_is_machine h]
theorem cs_ne {l : Str} (h : cs l ≠ []) : l ≠ "" := fun e => by
  subst e
  exact h (by decide +kernel)
theorem len_ok {l : Str} (hl : (cs l).length ≤ lim) : cLen [.str l] = some (.p (.int (cs l).length)) := by rw [c_len_s (by rw [len_cs]; exact hl), len_cs]
/-! ### steps -/
theorem stepS_bd {c : Nat} (h : MOk rb st) : 0 ≤ stepS st c ∧ stepS st c ≤ 27 := by
  have hs := h.s2
  unfold stepS
  match st, h.s1, hs with
  | [a, b], _, hs =>
    have h1 := hs a (by simp)
    have h2 := hs b (by simp)
    simp only [List.zip_cons_cons, List.zip_nil_right, List.filterMap_cons, List.filterMap_nil]
    (repeat' split) <;> simp_all <;> omega
  | [a, b, d], _, hs =>
    have h1 := hs a (by simp)
    have h2 := hs b (by simp)
    have h3 := hs d (by simp)
    simp only [List.zip_cons_cons, List.zip_nil_right, List.filterMap_cons, List.filterMap_nil]
    (repeat' split) <;> simp_all <;> omega
  | [], e, _ => simp at e
  | [a], e, _ => simp at e
  | a :: b :: d :: e :: r, e', _ => simp at e'
theorem stepsS_bd (h : MOk rb st) : ∀ (l : List Nat), 0 ≤ stepsS st l ∧ stepsS st l ≤ 27 * l.length
  | [] => ⟨by simp [stepsS], by simp [stepsS]⟩
  | c :: l => by
    have h1 := stepS_bd (c := c) h
    have h2 := stepsS_bd h l
    simp only [stepsS, List.map_cons, List.sum_cons, List.length_cons] at h2 ⊢
    omega
def standS (rb : List (Str × Int)) (st : List Int) (b : Int) (l : Str) (n : Int) (i : Nat) : Int := (b + (n * stepsS st (cs l) + stepsS st ((cs l).take i))) % (2 * lenS rb)
theorem cutS_take {l : Str} {i : Nat} : cs (L2.cutS l none (some (i : Int))) = (cs l).take i := by
  unfold L2.cutS
  rw [HT.sIx_nat, HT.sIx_none]
  show (((cs l).drop 0).take (min i l.length - 0)).toArray.toList = _
  rw [List.drop_zero, Nat.sub_zero, len_cs]
  show (cs l).take (min i (cs l).length) = _
  rw [List.take_eq_take_iff]
  omega
theorem mulOk_r {i j : Int} (h1 : 0 ≤ j) (h2 : j < 2 ^ 64) : mulOk i j = true := by
  have : (decide (-(2 ^ 64) < j) && decide (j < 2 ^ 64)) = true := by
    rw [Bool.and_eq_true, decide_eq_true_eq, decide_eq_true_eq]
    exact ⟨Int.lt_of_lt_of_le (by decide) h1, h2⟩
  unfold mulOk
  rw [this]
  cases (decide (-(2 ^ 64) < i) && decide (i < 2 ^ 64)) <;> rfl
theorem mulOk_l {i j : Int} (h1 : 0 ≤ i) (h2 : i < 2 ^ 64) : mulOk i j = true := by
  have : (decide (-(2 ^ 64) < i) && decide (i < 2 ^ 64)) = true := by
    rw [Bool.and_eq_true, decide_eq_true_eq, decide_eq_true_eq]
    exact ⟨Int.lt_of_lt_of_le (by decide) h1, h2⟩
  unfold mulOk
  rw [this]; rfl
theorem oMul_ok {i j : Int} (h : mulOk i j = true) : oMul (.int i) (.int j) = some (.p (.int (i * j))) := by
  show (if mulOk i j = true then some (D.p (.int (i * j))) else none) = _
  rw [h]; rfl
theorem oSl_s {l : Str} {lo hi : Option Int} (h : (cs l).length ≤ lim) : oSl lo hi (.str l) = some (.p (.str (L2.cutS l lo hi))) := by
  show (if l.length ≤ lim then some (D.p (.str (L2.cutS l lo hi))) else none) = _
  rw [if_pos (by rw [len_cs]; exact h)]
theorem eSl_ok {fa : EvD} {fl fh : EvO} {σ : Fr} {M M1 M2 M3 : Sto} {d r : D} {l u : Option Int} {p : P} (h1 : fa σ M = .ok d M1) (h2 : fl σ M1 = .ok l M2) (h3 : fh σ M2 = .ok u M3) (h4 : d.get M3 = some p) (h5 : oSl l u p = some r) : eSl fa fl fh σ M = .ok r M3 := by
  unfold eSl
  rw [h1]
  show (fl σ M1).bind _ = _
  rw [h2]
  show (fh σ M2).bind _ = _
  rw [h3]
  show (match d.get M3 with
  | some p => (match oSl l u p with
    | some r => Out.ok r M3
    | none => .no)
  | none => .no) = _
  rw [h4]
  show (match oSl l u p with
    | some r => Out.ok r M3
    | none => .no) = _
  rw [h5]
end

/-! ### the divisor -/
def cG : EvB := bOf (eBin oGt (eVar 1) (eC (.int 0)))
def bG : EvS := sSeq (sPar [0, 1] (aCons (eVar 1) (aCons (eBin oMod (eVar 0) (eVar 1)) aNil))) sNil
theorem gcd_loop {M : Sto} : ∀ (k m n : Nat), n < 2 ^ k → whL cG bG (2 * k + 1) [some (.p (.int m)), some (.p (.int n))] M = .ok (.nx [some (.p (.int (Nat.gcd m n))), some (.p (.int 0))]) M
  | k, m, 0, _ => by
    rw [whL]
    simp [cG]
  | 0, m, n + 1, h => by simp at h
  | k + 1, m, n + 1, h => by
    have step : ∀ (j : Nat) (m n : Nat), whL cG bG (j + 1) [some (.p (.int m)), some (.p (.int (n + 1 : Nat)))] M = whL cG bG j [some (.p (.int (n + 1 : Nat))), some (.p (.int ((m % (n + 1) : Nat) : Int)))] M := by
      intro j m n
      rw [whL]
      have hp : (0 : Int) < ((n : Int) + 1) := by omega
      simp [cG, bG, hp]
    have e1 := step (2 * k + 2) m n
    rw [show 2 * (k + 1) + 1 = (2 * k + 2) + 1 by omega]
    rw [e1, Nat.gcd_comm, Nat.gcd_rec]
    cases hr : m % (n + 1) with
    | zero =>
      rw [show 2 * k + 2 = (2 * k + 1) + 1 by omega, whL]
      simp [cG]
    | succ r =>
      have e2 := step (2 * k + 1) (n + 1) r
      rw [show 2 * k + 2 = (2 * k + 1) + 1 by omega, e2]
      have hlt : r + 1 < n + 1 := by rw [← hr]; exact Nat.mod_lt _ (by omega)
      have hb : (n + 1) % (r + 1) < 2 ^ k := by
        have h1 : (n + 1) % (r + 1) < r + 1 := Nat.mod_lt _ (by omega)
        have h2 : (n + 1) = (r + 1) * ((n + 1) / (r + 1)) + (n + 1) % (r + 1) := (Nat.div_add_mod _ _).symm
        have h3 : 1 ≤ (n + 1) / (r + 1) := Nat.div_pos (by omega) (by omega)
        have h4 : r + 1 ≤ (r + 1) * ((n + 1) / (r + 1)) := Nat.le_mul_of_pos_right _ h3
        rw [Nat.pow_succ] at h
        omega
      rw [gcd_loop k (r + 1) ((n + 1) % (r + 1)) hb]
      rw [Nat.gcd_rec (r + 1) (n + 1), Nat.gcd_comm]
end Ev


set_option linter.all false
set_option maxRecDepth 100000
set_option maxHeartbeats 4000000
/-! Spec5: the first number whose rest lies within. -/
namespace Ev
open PySem
def optI : Option Int → P
  | none => .non
  | some m => .int m
/-- as the def goes; the outer none: not enough turns -/
def frR : Nat → Int → Int → Int → Int → Option (Option Int)
  | 0, _, _, _, _ => none
  | k + 1, factor, ring, low, high =>
    if low = 0 then some (some 0) else
    if factor % ring = 0 then some none else
    if (low + factor % ring - 1) / (factor % ring) * (factor % ring) ≤ high then some (some ((low + factor % ring - 1) / (factor % ring))) else
    match frR k ring (factor % ring) (-high % (factor % ring)) (-low % (factor % ring)) with
    | none => none
    | some none => some none
    | some (some m) => some (some ((low + ring * m + factor % ring - 1) / (factor % ring)))
theorem natAbs_of {x b : Int} (h1 : 0 ≤ x) (h2 : x < b) : x.natAbs < b.toNat := by omega
theorem big400 : (2 : Int) ^ 400 * 1000 < 2 ^ 1000 := by decide +kernel
theorem nat1000 {x : Int} (h1 : 0 ≤ x) (h2 : x < 2 ^ 400 * 1000) : x.natAbs < 2 ^ 1000 := by
  have h3 : x < 2 ^ 1000 := Int.lt_trans h2 big400
  have h4 : ((x.natAbs : Nat) : Int) < ((2 ^ 1000 : Nat) : Int) := by
    rw [Int.natAbs_of_nonneg h1]
    exact Int.lt_of_lt_of_le h3 (by norm_cast)
  exact Int.ofNat_lt.mp h4
theorem mulOk_b {i j : Int} (h1 : i.natAbs < 2 ^ 1000) (h2 : j.natAbs < 2 ^ 1000) : mulOk i j = true := by
  have : (decide (i.natAbs < 2 ^ 1000) && decide (j.natAbs < 2 ^ 1000)) = true := by rw [decide_eq_true h1, decide_eq_true h2]; rfl
  unfold mulOk
  rw [this]
  cases (decide (-(2 ^ 64) < i) && decide (i < 2 ^ 64)) <;> cases (decide (-(2 ^ 64) < j) && decide (j < 2 ^ 64)) <;> rfl
theorem oFdiv_ok {i j : Int} (h1 : 0 < j) (h2 : j.natAbs < 2 ^ 1000) : oFdiv (.int i) (.int j) = some (.p (.int (i / j))) := if_pos ⟨h1, h2⟩
theorem oIsN_i {i : Int} : oIsN (.int i) .non = some (.p (.bl false)) := rfl
theorem oIsN_n : oIsN .non .non = some (.p (.bl true)) := rfl
theorem ediv_bd {low f R : Int} (hf : 0 < f) (hl : 1 ≤ low) : 0 ≤ (low + f - 1) / f ∧ (low + f - 1) / f ≤ low := by
  refine ⟨Int.ediv_nonneg (by omega) (by omega), ?_⟩
  have : (low + f - 1) / f < low + 1 := by
    rw [Int.ediv_lt_iff_lt_mul hf]
    have : low * 1 ≤ low * f := Int.mul_le_mul_of_nonneg_left (by omega) (by omega)
    have h2 : (low + 1) * f = low * f + f := by rw [Int.add_mul]; omega
    omega
  omega
end Ev


set_option linter.all false
set_option maxRecDepth 100000
set_option maxHeartbeats 4000000
/-! Spec6: first numbers. -/
namespace Ev
open PySem
theorem fr_mono : ∀ {k : Nat} {a b c d : Int} {r : Option Int}, frR k a b c d = some r → frR (k + 1) a b c d = some r
  | 0, _, _, _, _, _, h => by simp [frR] at h
  | k + 1, a, b, c, d, r, h => by
    rw [frR] at h ⊢
    split at h
    · rename_i h0; rw [if_pos h0]; exact h
    · rename_i h0
      rw [if_neg h0]
      split at h
      · rename_i h1; rw [if_pos h1]; exact h
      · rename_i h1
        rw [if_neg h1]
        split at h
        · rename_i h2; rw [if_pos h2]; exact h
        · rename_i h2
          rw [if_neg h2]
          cases e : frR k b (a % b) (-d % (a % b)) (-c % (a % b)) with
          | none => rw [e] at h; cases h
          | some r' =>
            rw [e] at h
            rw [fr_mono e]
            exact h
theorem fr_le {k j : Nat} {a b c d : Int} {r : Option Int} (h : frR k a b c d = some r) (hl : k ≤ j) : frR j a b c d = some r := by
  induction j with
  | zero => rw [← Nat.le_zero.mp hl]; exact h
  | succ j ih =>
    rcases Nat.lt_or_ge k (j + 1) with z | z
    · exact fr_mono (ih (by omega))
    · rw [← show k = j + 1 by omega]; exact h
/-- it ends -/
theorem fr_tot : ∀ (j : Nat) (a b c d : Int), 0 < b → b < 2 ^ j → ∃ r, frR (2 * j + 1) a b c d = some r
  | 0, a, b, c, d, h1, h2 => by simp at h2; omega
  | j + 1, a, b, c, d, h1, h2 => by
    rw [show 2 * (j + 1) + 1 = (2 * j + 1 + 1) + 1 by omega, frR]
    split
    · exact ⟨_, rfl⟩
    · split
      · exact ⟨_, rfl⟩
      · rename_i hz
        split
        · exact ⟨_, rfl⟩
        · generalize hf : a % b = f at hz ⊢
          have f0 : 0 < f := by
            have : 0 ≤ f := by rw [← hf]; exact Int.emod_nonneg _ (by omega)
            omega
          have f1 : f < b := by rw [← hf]; exact Int.emod_lt_of_pos _ h1
          have key : ∃ r, frR (2 * j + 1 + 1) b f (-d % f) (-c % f) = some r := by
            rw [frR]
            split
            · exact ⟨_, rfl⟩
            · split
              · exact ⟨_, rfl⟩
              · rename_i hz2
                split
                · exact ⟨_, rfl⟩
                · generalize hg : b % f = g at hz2 ⊢
                  have g0 : 0 < g := by
                    have : 0 ≤ g := by rw [← hg]; exact Int.emod_nonneg _ (by omega)
                    omega
                  have g1 : g < f := by rw [← hg]; exact Int.emod_lt_of_pos _ f0
                  have g2 : g < 2 ^ j := by
                    have e := Int.mul_ediv_add_emod b f
                    rw [hg] at e
                    have q1 : 1 ≤ b / f := by
                      rw [Int.le_ediv_iff_mul_le f0]; omega
                    have : f * 1 ≤ f * (b / f) := Int.mul_le_mul_of_nonneg_left q1 (by omega)
                    rw [Int.pow_succ] at h2
                    omega
                  obtain ⟨r, hr⟩ := fr_tot j f g (-(-c % f) % g) (-(-d % f) % g) g0 g2
                  rw [hr]
                  cases r <;> exact ⟨_, rfl⟩
          obtain ⟨r, hr⟩ := key
          rw [hr]
          cases r <;> exact ⟨_, rfl⟩
def frT (a b c d : Int) : Option Int := (frR 219 a b c d).getD none
theorem frT_eq {a b c d : Int} (h1 : 0 < b) (h2 : b < 2 ^ 109) : frR 219 a b c d = some (frT a b c d) := by
  obtain ⟨r, hr⟩ := fr_tot 109 a b c d h1 h2
  have : frR 219 a b c d = some r := hr
  unfold frT
  rw [this]; rfl
def hitS (begin step ring : Int) (arc : Int × Int) : Option Int :=
  if arc.1 ≤ begin ∧ begin ≤ arc.2 then some 0 else frT step ring ((arc.1 - begin) % ring) ((arc.1 - begin) % ring + arc.2 - arc.1)
end Ev


set_option linter.all false
set_option maxRecDepth 100000
set_option maxHeartbeats 4000000
/-! Spec7: first_by, first_line, ever. -/
namespace Ev
open PySem
theorem toPyL_ints : ∀ ns : List Int, toPyL (ns.map P.int) = some (ns.map PyData.int)
  | [] => by simp [toPyL]
  | n :: r => by simp [toPyL, toPy, toPyL_ints r]
theorem oNe_ints_nil (ns : List Int) : oNe (.lst (ns.map P.int)) (.lst []) = some (.p (.bl (!decide (ns = [])))) := by
  have e1 : toPy (.lst (ns.map P.int)) = some (.list (ns.map PyData.int)) := by simp [toPy, toPyL_ints]
  have e2 : toPy (.lst []) = some (.list []) := by simp [toPy, toPyL]
  have s1 : SeqAt.shaped (.list (ns.map PyData.int)) = true := by
    unfold SeqAt.shaped
    rw [PyData.canLay0, PyProof.Rows.canLayAll_ints, PyData.depth, PyProof.Rows.depthAll_ints]
    decide
  have s2 : SeqAt.shaped (.list []) = true := by decide +kernel
  have e3 : PyData.eqv (.list (ns.map PyData.int)) (.list []) = decide (ns = []) := by
    cases ns with
    | nil => simp [PyData.eqv, PyData.eqvAll]
    | cons a r => simp [PyData.eqv, PyData.eqvAll]
  have e4 : eqB (.lst (ns.map P.int)) (.lst []) = (match toPy (.lst (ns.map P.int)), toPy (.lst []) with
    | some d, some e => if SeqAt.shaped d && SeqAt.shaped e then some (PyData.eqv d e) else none
    | _, _ => none) := rfl
  unfold oNe
  rw [e4, e1, e2]
  dsimp only
  rw [s1, s2, e3]
  rfl
theorem rows_bd {col : Str} : ∀ {rb : List (Str × Int)} {b : Int} {x : Int × Int}, (∀ y ∈ rb, 1 ≤ y.2) → x ∈ rowsS col rb b → b ≤ x.1 ∧ 1 ≤ x.2 ∧ x.1 + x.2 ≤ b + lenS rb
  | [], _, _, _, h => by simp [rowsS] at h
  | (c, n) :: r, b, x, hy, h => by
    have h1 := hy (c, n) List.mem_cons_self
    have hl : lenS ((c, n) :: r) = n + lenS r := by simp [lenS]
    have hr : 0 ≤ lenS r := by
      by_cases z : 1 ≤ r.length
      · have := lenS_pos (rb := r) (fun y hy' => hy y (List.mem_cons_of_mem _ hy')) z
        omega
      · have : r = [] := List.eq_nil_of_length_eq_zero (by omega)
        subst this; simp [lenS]
    have ih : ∀ {x}, x ∈ rowsS col r (b + n) → b + n ≤ x.1 ∧ 1 ≤ x.2 ∧ x.1 + x.2 ≤ b + n + lenS r := fun hx => rows_bd (fun y hy' => hy y (List.mem_cons_of_mem _ hy')) hx
    unfold rowsS at h
    dsimp only at h1
    split at h
    · rcases List.mem_cons.mp h with z | z
      · subst z; dsimp only; omega
      · have := ih z; omega
    · have := ih h; omega
theorem arcs_bd {rb : List (Str × Int)} {st : List Int} {col : Str} (h : MOk rb st) {a : Int × Int} (ha : a ∈ arcsS rb col) : 0 ≤ a.1 ∧ a.1 ≤ a.2 ∧ a.2 < 2 * lenS rb := by
  have hy : ∀ y ∈ rb, 1 ≤ y.2 := fun y hy => (h.c y hy).2.1
  unfold arcsS at ha
  rcases List.mem_append.mp ha with z | z
  · obtain ⟨x, hx, rfl⟩ := List.mem_map.mp z
    have := rows_bd hy hx
    have := h.pos
    dsimp only; omega
  · obtain ⟨x, hx, rfl⟩ := List.mem_map.mp z
    have := rows_bd hy hx
    have := h.pos
    dsimp only; omega
theorem lenS_le : ∀ {rb : List (Str × Int)} {k : Int}, (∀ y ∈ rb, y.2 ≤ k) → 0 ≤ k → lenS rb ≤ rb.length * k
  | [], _, _, hk => by simp [lenS]
  | (c, n) :: r, k, h, hk => by
    have h1 := h (c, n) List.mem_cons_self
    have h2 := lenS_le (rb := r) (fun y hy => h y (List.mem_cons_of_mem _ hy)) hk
    have e : lenS ((c, n) :: r) = n + lenS r := by simp [lenS]
    rw [e, List.length_cons, Int.natCast_add, Int.add_mul]
    dsimp only at h1
    simp
    omega
theorem MOk.ring {rb : List (Str × Int)} {st : List Int} (h : MOk rb st) : 0 < 2 * lenS rb ∧ 2 * lenS rb < 2 ^ 109 := by
  have h1 := h.pos
  have h2 := lenS_le (fun y hy => (h.c y hy).2.2) (show (0 : Int) ≤ GRT by decide)
  have h3 : (rb.length : Int) * GRT ≤ 6 * GRT := Int.mul_le_mul_of_nonneg_right (by have := h.l2; omega) (by decide)
  have h4 : 2 * (6 * GRT) < 2 ^ 109 := by decide +kernel
  constructor
  · omega
  · omega
theorem stand_bd {rb : List (Str × Int)} {st : List Int} {b n : Int} {l : Str} {i : Nat} (h : MOk rb st) : 0 ≤ standS rb st b l n i ∧ standS rb st b l n i < 2 * lenS rb :=
  ⟨Int.emod_nonneg _ (by have := h.ring; omega), Int.emod_lt_of_pos _ h.ring.1⟩
def byS (rb : List (Str × Int)) (st : List Int) (b : Int) (l : Str) (i : Nat) (col : Str) : Option Int :=
  if (arcsS rb col).filterMap (hitS (standS rb st b l 0 i) (stepsS st (cs l)) (2 * lenS rb)) = [] then none else some (minL ((arcsS rb col).filterMap (hitS (standS rb st b l 0 i) (stepsS st (cs l)) (2 * lenS rb))))
def unPr : P → Int × Int
  | .tup [.int a, .int b] => (a, b)
  | _ => (0, 0)
def noneP : P → Option P
  | .non => none
  | p => some p
theorem arcs_len {rb : List (Str × Int)} {st : List Int} {col : Str} (h : MOk rb st) : (arcsS rb col).length ≤ 12 := by
  have := rows_len col rb 0
  have := h.l2
  unfold arcsS
  simp
  omega
def everS (rb : List (Str × Int)) (st : List Int) (b : Int) (l : Str) (i : Nat) : List Nat := [98, 103, 114].filter fun c => (byS rb st b l i (sg c)).isSome
theorem chars_bgr : chars "bgr" = [98, 103, 114].map fun c => P.str (sg c) := by rfl
theorem filter_fm {α β : Type} {p : α → Bool} {f : α → β} {g : β → Option β} (h : ∀ c, g (f c) = if p c = true then some (f c) else none) : ∀ {L : List α}, (L.filter p).map f = (L.map f).filterMap g
  | [] => rfl
  | a :: r => by
    have ih := filter_fm h (L := r)
    rw [List.filter_cons, List.map_cons, List.filterMap_cons, h]
    cases p a with
    | true => simp [ih]
    | false => simp [ih]
end Ev


set_option linter.all false
set_option maxRecDepth 100000
set_option maxHeartbeats 4000000
/-! Spec8: wishes, period. -/
namespace Ev
open PySem
structure WishOk (l w : Str) : Prop where
  len : (cs w).length = (cs l).length
  mem : ∀ c ∈ cs w, c ∈ [98, 103, 114]
def periodS (rb : List (Str × Int)) (st : List Int) (l : Str) : Int := 2 * lenS rb / (Nat.gcd (2 * lenS rb).toNat ((stepsS st (cs l)) % (2 * lenS rb)).toNat : Nat)
theorem p109 : (2 : Int) ^ 109 ≤ 2 ^ 400 := by decide +kernel
theorem toNat_lt {x : Int} {n : Nat} (h : x < 2 ^ n) : x.toNat < 2 ^ n := by
  have : ((2 : Int) ^ n) = ((2 ^ n : Nat) : Int) := by rw [Int.natCast_pow]; rfl
  rw [this] at h
  have : 0 < 2 ^ n := Nat.two_pow_pos n
  omega
theorem gcd_pos_i {x : Int} {n : Nat} (h : 0 < x) : 0 < ((Nat.gcd x.toNat n : Nat) : Int) := by
  have : 0 < x.toNat := by omega
  have := Nat.gcd_pos_of_pos_left n this
  omega
theorem gcd_le_i {x : Int} {n : Nat} (h : 0 < x) : ((Nat.gcd x.toNat n : Nat) : Int) ≤ x := by
  have h0 : 0 < x.toNat := by omega
  have := Nat.gcd_le_left n h0
  omega
theorem lt1000 {x : Int} (h1 : 0 ≤ x) (h2 : x < 2 ^ 109) : x.natAbs < 2 ^ 1000 := nat1000 h1 (Int.lt_of_lt_of_le h2 (by decide +kernel))
end Ev


set_option linter.all false
set_option maxRecDepth 100000
set_option maxHeartbeats 4000000
/-! Spec9: times_of, hits, wear. -/
namespace Ev
open PySem
def cT : EvB := bOf (eBin oGt (eVar 4) (eC (.int 0)))
def bT : EvS := (sSeq (sSet 7 (eBin oFdiv (eVar 3) (eVar 4)))
    (sSeq (sUnp (.tu [(.nm 3), (.nm 4), (.nm 5), (.nm 6)]) (eTup (aCons (eVar 4) (aCons (eBin oSub (eVar 3) (eBin oMul (eVar 7) (eVar 4))) (aCons (eVar 6) (aCons (eBin oSub (eVar 5) (eBin oMul (eVar 7) (eVar 6))) aNil))))))
    sNil))
theorem four_lim : 4 ≤ lim := Nat.le_trans (by decide) lim_big
theorem eg_step {j : Nat} {a b c x : Option D} {r0 r1 u0 u1 : Int} {M : Sto} (h : 0 < r1) (hq : r1.natAbs < 2 ^ 1000) (m1 : mulOk (r0 / r1) r1 = true) (m2 : mulOk (r0 / r1) u1 = true) :
    whL cT bT (j + 1) [a, b, c, some (.p (.int r0)), some (.p (.int r1)), some (.p (.int u0)), some (.p (.int u1)), x] M =
      whL cT bT j [a, b, c, some (.p (.int r1)), some (.p (.int (r0 - r0 / r1 * r1))), some (.p (.int u1)), some (.p (.int (u0 - r0 / r1 * u1))), some (.p (.int (r0 / r1)))] M := by
  have f4 := four_lim
  rw [whL]
  have e1 : ∀ (x : Option D), cT [a, b, c, some (.p (.int r0)), some (.p (.int r1)), some (.p (.int u0)), some (.p (.int u1)), x] M = .ok true M := by
    intro x
    simp [cT, h]
  rw [e1]
  have e2 : bT [a, b, c, some (.p (.int r0)), some (.p (.int r1)), some (.p (.int u0)), some (.p (.int u1)), x] M = .ok (.nx [a, b, c, some (.p (.int r1)), some (.p (.int (r0 - r0 / r1 * r1))), some (.p (.int u1)), some (.p (.int (u0 - r0 / r1 * u1))), some (.p (.int (r0 / r1)))]) M := by
    unfold bT
    rw [seq_ok (set_ok (d := .p (.int (r0 / r1))) (M1 := M) (bin_ok (d1 := .p (.int r0)) (d2 := .p (.int r1)) (M1 := M) rfl rfl rfl rfl (oFdiv_ok h hq)))]
    refine Eq.trans (seq_ok (unp_ok (M1 := M) (p := .tup [.int r1, .int (r0 - r0 / r1 * r1), .int u1, .int (u0 - r0 / r1 * u1)]) ?_ (by simp; rfl))) ?_
    · simp [oMul_ok m1, oMul_ok m2, f4]
    · rfl
  dsimp only
  rw [e2]
theorem eg_end {j : Nat} {a b c x : Option D} {r0 u0 u1 : Int} {M : Sto} :
    whL cT bT (j + 1) [a, b, c, some (.p (.int r0)), some (.p (.int 0)), some (.p (.int u0)), some (.p (.int u1)), x] M = .ok (.nx [a, b, c, some (.p (.int r0)), some (.p (.int 0)), some (.p (.int u0)), some (.p (.int u1)), x]) M := by
  rw [whL]
  simp [cT]
structure EgI (ring step : Int) (r0 r1 : Nat) (u0 u1 : Int) : Prop where
  p0 : 0 < r0
  l0 : (r0 : Int) ≤ ring
  l1 : (r1 : Int) ≤ ring
  a : ring ∣ u0 * step - r0
  b : ring ∣ u1 * step - r1
  c : u0.natAbs * r1 + u1.natAbs * r0 ≤ ring.toNat
  d : u0.natAbs ≤ ring.toNat
theorem EgI.next {ring step : Int} {r0 r1 : Nat} {u0 u1 : Int} (h : EgI ring step r0 r1 u0 u1) (h1 : 0 < r1) : EgI ring step r1 (r0 % r1) u1 (u0 - (r0 / r1 : Nat) * u1) := by
  have e : (r0 : Int) = r1 * (r0 / r1 : Nat) + (r0 % r1 : Nat) := by rw [← Int.natCast_mul, ← Int.natCast_add, Nat.div_add_mod]
  have hlt := Nat.mod_lt r0 h1
  refine ⟨h1, h.l1, by have := h.l1; omega, h.b, ?_, ?_, ?_⟩
  · have k : (u0 - (r0 / r1 : Nat) * u1) * step - (r0 % r1 : Nat) = (u0 * step - r0) - (r0 / r1 : Nat) * (u1 * step - r1) := by
      rw [e]
      generalize ((r0 / r1 : Nat) : Int) = q
      generalize ((r0 % r1 : Nat) : Int) = m
      generalize (r1 : Int) = r
      rw [Int.sub_mul, Int.mul_sub, Int.mul_assoc, Int.mul_comm r q]
      omega
    rw [k]
    exact Int.dvd_sub h.a (Int.dvd_trans h.b (Int.dvd_mul_left _ _))
  · have k1 : (u0 - (r0 / r1 : Nat) * u1).natAbs ≤ u0.natAbs + (r0 / r1) * u1.natAbs := by
      have := Int.natAbs_sub_le u0 ((r0 / r1 : Nat) * u1)
      rw [Int.natAbs_mul] at this
      exact this
    have k2 : (u0 - (r0 / r1 : Nat) * u1).natAbs * r1 ≤ (u0.natAbs + (r0 / r1) * u1.natAbs) * r1 := Nat.mul_le_mul_right _ k1
    have k3 : u1.natAbs * r0 = u1.natAbs * (r0 % r1) + (r0 / r1) * u1.natAbs * r1 := by
      conv => lhs; rw [← Nat.div_add_mod r0 r1, Nat.mul_add]
      rw [Nat.add_comm, Nat.mul_comm (r0 / r1), Nat.mul_assoc, Nat.mul_comm r1]
    have := h.c
    rw [Nat.add_mul] at k2
    omega
  · have h2 := h.c
    have : u1.natAbs * 1 ≤ u1.natAbs * r0 := Nat.mul_le_mul_left _ h.p0
    omega
theorem eg_step' {j : Nat} {a b c x : Option D} {ring step : Int} {r0 r1 : Nat} {u0 u1 : Int} {M : Sto} (hR : ring < 2 ^ 109) (h : EgI ring step r0 r1 u0 u1) (h1 : 0 < r1) :
    ∃ x', whL cT bT (j + 1) [a, b, c, some (.p (.int r0)), some (.p (.int r1)), some (.p (.int u0)), some (.p (.int u1)), x] M =
      whL cT bT j [a, b, c, some (.p (.int r1)), some (.p (.int (r0 % r1 : Nat))), some (.p (.int u1)), some (.p (.int (u0 - (r0 / r1 : Nat) * u1))), x'] M := by
  have hq0 : r0 / r1 ≤ r0 := Nat.div_le_self _ _
  have hu : u1.natAbs ≤ ring.toNat := by
    have := h.c
    have : u1.natAbs * 1 ≤ u1.natAbs * r0 := Nat.mul_le_mul_left _ h.p0
    omega
  have hR' : ring.toNat < 2 ^ 1000 := Nat.lt_of_lt_of_le (toNat_lt hR) (Nat.pow_le_pow_right (by decide) (by decide))
  have l0 := h.l0
  have l1 := h.l1
  have hq : ((r0 : Int) / r1).natAbs < 2 ^ 1000 := by
    rw [← Int.natCast_ediv, Int.natAbs_natCast]
    omega
  have h1' : ((r1 : Int)).natAbs < 2 ^ 1000 := by omega
  have e := eg_step (j := j) (a := a) (b := b) (c := c) (x := x) (r0 := r0) (r1 := r1) (u0 := u0) (u1 := u1) (M := M) (by omega) h1' (mulOk_b hq h1') (mulOk_b hq (by omega))
  rw [← Int.natCast_ediv] at e
  have e3 : (r0 : Int) - ((r0 / r1 : Nat) : Int) * r1 = (r0 % r1 : Nat) := by
    have : (r0 : Int) = r1 * (r0 / r1 : Nat) + (r0 % r1 : Nat) := by rw [← Int.natCast_mul, ← Int.natCast_add, Nat.div_add_mod]
    rw [Int.mul_comm (r1 : Int)] at this
    omega
  rw [e3] at e
  exact ⟨_, e⟩
theorem eg_loop {a b c : Option D} {ring step : Int} {M : Sto} (hR : ring < 2 ^ 109) : ∀ (k r0 r1 : Nat) (u0 u1 : Int) (x : Option D), r1 < 2 ^ k → EgI ring step r0 r1 u0 u1 →
    ∃ u x6 x7, whL cT bT (2 * k + 1) [a, b, c, some (.p (.int r0)), some (.p (.int r1)), some (.p (.int u0)), some (.p (.int u1)), x] M = .ok (.nx [a, b, c, some (.p (.int (Nat.gcd r0 r1))), some (.p (.int 0)), some (.p (.int u)), x6, x7]) M ∧ ring ∣ u * step - Nat.gcd r0 r1 ∧ u.natAbs ≤ ring.toNat
  | k, r0, 0, u0, u1, x, _, h => ⟨u0, _, _, by rw [Nat.gcd_zero_right]; exact eg_end, by rw [Nat.gcd_zero_right]; exact h.a, h.d⟩
  | 0, r0, r1 + 1, u0, u1, x, hk, _ => by simp at hk
  | k + 1, r0, r1 + 1, u0, u1, x, hk, h => by
    obtain ⟨x', e1⟩ := eg_step' (j := 2 * k + 2) (a := a) (b := b) (c := c) (x := x) (M := M) hR h (by omega)
    have n1 := h.next (by omega)
    have g1 : Nat.gcd r0 (r1 + 1) = Nat.gcd (r1 + 1) (r0 % (r1 + 1)) := by rw [Nat.gcd_comm, Nat.gcd_rec, Nat.gcd_comm]
    rw [show 2 * (k + 1) + 1 = (2 * k + 2) + 1 by omega, e1, g1]
    cases hr : r0 % (r1 + 1) with
    | zero =>
      rw [hr] at n1
      rw [Nat.gcd_zero_right]
      exact ⟨_, _, _, eg_end, n1.a, n1.d⟩
    | succ r =>
      rw [hr] at n1
      obtain ⟨x'', e2⟩ := eg_step' (j := 2 * k + 1) (a := a) (b := b) (c := c) (x := x') (M := M) hR n1 (by omega)
      have n2 := n1.next (by omega)
      have hlt : r + 1 < r1 + 1 := by rw [← hr]; exact Nat.mod_lt _ (by omega)
      have hb : (r1 + 1) % (r + 1) < 2 ^ k := by
        have h1 : (r1 + 1) % (r + 1) < r + 1 := Nat.mod_lt _ (by omega)
        have h2 : (r1 + 1) = (r + 1) * ((r1 + 1) / (r + 1)) + (r1 + 1) % (r + 1) := (Nat.div_add_mod _ _).symm
        have h3 : 1 ≤ (r1 + 1) / (r + 1) := Nat.div_pos (by omega) (by omega)
        have h4 : r + 1 ≤ (r + 1) * ((r1 + 1) / (r + 1)) := Nat.le_mul_of_pos_right _ h3
        rw [Nat.pow_succ] at hk
        omega
      obtain ⟨u, x6, x7, e3, e4, e5⟩ := eg_loop (a := a) (b := b) (c := c) (M := M) hR k (r + 1) ((r1 + 1) % (r + 1)) _ _ x'' hb n2
      have g2 : Nat.gcd (r1 + 1) (r + 1) = Nat.gcd (r + 1) ((r1 + 1) % (r + 1)) := by rw [Nat.gcd_comm, Nat.gcd_rec, Nat.gcd_comm]
      rw [show 2 * k + 2 = (2 * k + 1) + 1 by omega, e2, g2]
      exact ⟨u, x6, x7, e3, e4, e5⟩
end Ev


set_option linter.all false
set_option maxRecDepth 100000
set_option maxHeartbeats 4000000
/-! Spec10: hits. -/
namespace Ev
open PySem
def cntM (n k t : Nat) : Nat := ((List.range n).filter fun x => decide (x % k = t)).length
theorem succ_div' {a k : Nat} (hk : 0 < k) : (a + 1) / k = a / k + if (a + 1) % k = 0 then 1 else 0 := by
  have h1 := Nat.div_add_mod a k
  have h2 := Nat.mod_lt a hk
  by_cases z : a % k + 1 = k
  · have e : a + 1 = k * (a / k + 1) := by rw [Nat.mul_add]; omega
    rw [e, Nat.mul_mod_right, if_pos rfl, Nat.mul_div_cancel_left _ hk]
  · have e : a + 1 = (a % k + 1) + k * (a / k) := by omega
    have hlt : a % k + 1 < k := by omega
    have em : (a + 1) % k = a % k + 1 := by
      conv => lhs; rw [e]
      rw [Nat.add_mul_mod_self_left, Nat.mod_eq_of_lt hlt]
    have ed : (a + 1) / k = a / k := by
      conv => lhs; rw [e]
      rw [Nat.add_mul_div_left _ _ hk, Nat.div_eq_of_lt hlt, Nat.zero_add]
    rw [em, ed, if_neg (by omega)]
    rfl
theorem cntM_eq {k t : Nat} (ht : t < k) : ∀ n, cntM n k t = if t < n then (n - 1 - t) / k + 1 else 0
  | 0 => by simp [cntM]
  | n + 1 => by
    have ih := cntM_eq ht n
    have hk : 0 < k := by omega
    unfold cntM at ih ⊢
    rw [List.range_succ, List.filter_append, List.length_append, ih, Nat.add_sub_cancel]
    have e1 : (List.filter (fun x => decide (x % k = t)) [n]).length = if n % k = t then 1 else 0 := by
      by_cases z : n % k = t <;> simp [z]
    rw [e1]
    by_cases h1 : t < n
    · rw [if_pos h1, if_pos (show t < n + 1 by omega)]
      have e2 : n - t = (n - 1 - t) + 1 := by omega
      rw [e2, succ_div' hk, ← e2]
      have e3 : (n - t) % k = 0 ↔ n % k = t := by
        constructor
        · intro z
          have : n = t + k * ((n - t) / k) := by
            have := Nat.div_add_mod (n - t) k
            omega
          rw [this, Nat.add_mul_mod_self_left, Nat.mod_eq_of_lt ht]
        · intro z
          have : n - t = k * (n / k) := by
            have := Nat.div_add_mod n k
            omega
          rw [this, Nat.mul_mod_right]
      by_cases z : n % k = t
      · rw [if_pos z, if_pos (e3.mpr z)]
      · rw [if_neg z, if_neg (fun w => z (e3.mp w))]
    · rw [if_neg h1]
      by_cases h2 : t < n + 1
      · have : t = n := by omega
        subst this
        rw [if_pos h2, Nat.mod_eq_of_lt ht, if_pos rfl, Nat.sub_self, Nat.zero_div]
      · rw [if_neg h2, if_neg]
        intro z
        have := Nat.mod_le n k
        omega
/-- how many of the first lines strike a place -/
def hitN (begin step R place lines : Int) : Nat := ((List.range lines.toNat).filter fun (x : Nat) => decide (R ∣ begin + (x : Int) * step - place)).length
theorem hitN_no {b s R p n g : Int} (h1 : g ∣ R) (h2 : g ∣ s) (h3 : ¬ g ∣ p - b) : hitN b s R p n = 0 := by
  unfold hitN
  rw [List.length_eq_zero_iff, List.filter_eq_nil_iff]
  intro x _ hx
  rw [decide_eq_true_eq] at hx
  apply h3
  have k := Int.dvd_trans h1 hx
  have k2 : p - b = (x : Int) * s - (b + (x : Int) * s - p) := by omega
  rw [k2]
  exact Int.dvd_sub (Int.dvd_trans h2 (Int.dvd_mul_left _ _)) k
theorem hitN_yes {b s R p n t : Int} {g : Nat} (h0 : 0 < R) (hg : 0 < g) (h1 : (g : Int) ∣ R) (h2 : (g : Int) ∣ s) (co : ∀ z : Int, R / g ∣ z * (s / g) → R / g ∣ z) (t0 : 0 ≤ t) (t1 : t < R / g) (ht : R ∣ b + t * s - p) :
    ((hitN b s R p n : Nat) : Int) = if t < n then (n - 1 - t) / (R / g) + 1 else 0 := by
  have key : ∀ x : Nat, R ∣ b + (x : Int) * s - p ↔ x % (R / g).toNat = t.toNat := by
    intro x
    have e1 : R ∣ b + (x : Int) * s - p ↔ R ∣ ((x : Int) - t) * s := by
      have e : b + (x : Int) * s - p = (b + t * s - p) + ((x : Int) - t) * s := by rw [Int.sub_mul]; omega
      rw [e]
      exact Int.dvd_add_right ht
    have gp : (0 : Int) < g := by omega
    have eR : R = g * (R / g) := (Int.mul_ediv_cancel' h1).symm
    have es : s = g * (s / g) := (Int.mul_ediv_cancel' h2).symm
    have e2 : R ∣ ((x : Int) - t) * s ↔ R / g ∣ ((x : Int) - t) * (s / g) := by
      have e : ((x : Int) - t) * s = g * (((x : Int) - t) * (s / g)) := by
        conv => lhs; rw [es]
        rw [← Int.mul_assoc, ← Int.mul_assoc, Int.mul_comm ((x : Int) - t)]
      rw [e]
      constructor
      · intro z
        rw [eR] at z
        exact Int.dvd_of_mul_dvd_mul_left (Int.ne_of_gt gp) z
      · intro z
        conv => lhs; rw [eR]
        exact Int.mul_dvd_mul_left _ z
    have e3 : R / g ∣ ((x : Int) - t) * (s / g) ↔ R / g ∣ (x : Int) - t := ⟨co _, fun z => Int.dvd_trans z (Int.dvd_mul_right _ _)⟩
    have kp : 0 < R / g := by omega
    have e4 : R / g ∣ (x : Int) - t ↔ (x : Int) % (R / g) = t := by
      constructor
      · intro z
        have := Int.emod_emod_of_dvd (x : Int) (Int.dvd_refl (R / g))
        have z2 : ((x : Int) - t) % (R / g) = 0 := Int.emod_eq_zero_of_dvd z
        have z3 := Int.emod_eq_emod_iff_emod_sub_eq_zero.mpr z2
        rw [z3]
        exact Int.emod_eq_of_lt t0 t1
      · intro z
        have : (x : Int) - t = (x : Int) - (x : Int) % (R / g) := by rw [z]
        rw [this]
        exact Int.dvd_self_sub_emod
    rw [e1, e2, e3, e4]
    have e5 : (x : Int) % (R / g) = ((x % (R / g).toNat : Nat) : Int) := by
      rw [Int.natCast_emod, Int.toNat_of_nonneg (Int.le_of_lt kp)]
    rw [e5]
    omega
  have e : hitN b s R p n = cntM n.toNat (R / g).toNat t.toNat := by
    unfold hitN cntM
    congr 1
    apply List.filter_congr
    intro x _
    rw [decide_eq_decide]
    exact key x
  rw [e, cntM_eq (by omega)]
  by_cases z : t < n
  · rw [if_pos z, if_pos (by omega)]
    have : ((n.toNat - 1 - t.toNat : Nat) : Int) = n - 1 - t := by omega
    rw [Int.natCast_add, Int.natCast_ediv, this, Int.toNat_of_nonneg (by omega)]
    rfl
  · rw [if_neg z, if_neg (by omega)]
    rfl
theorem toNat_div {x : Int} {g : Nat} (h : 0 ≤ x) : (x / (g : Int)).toNat = x.toNat / g := by
  obtain ⟨n, rfl⟩ := Int.eq_ofNat_of_zero_le h
  rw [← Int.natCast_ediv]
  rfl
end Ev


set_option linter.all false
set_option maxRecDepth 100000
set_option maxHeartbeats 4000000
/-! Spec11: standings_by, wear, first_off. -/
namespace Ev
open PySem
theorem forL_nil {t : Tg} {b : EvS} {σ : Fr} {M : Sto} : forL t b [] σ M = .ok (.nx σ) M := rfl
theorem forL_nx {t : Tg} {b : EvS} {p : P} {ps : List P} {σ σ1 σ2 : Fr} {M M2 : Sto} (h1 : tgA t p σ = some σ1) (h2 : b σ1 M = .ok (.nx σ2) M2) : forL t b (p :: ps) σ M = forL t b ps σ2 M2 := by
  rw [forL, h1]
  dsimp only
  rw [h2]
theorem forL_rt {t : Tg} {b : EvS} {p : P} {ps : List P} {σ σ1 : Fr} {M M2 : Sto} {d : D} (h1 : tgA t p σ = some σ1) (h2 : b σ1 M = .ok (.rt d) M2) : forL t b (p :: ps) σ M = .ok (.rt d) M2 := by
  rw [forL, h1]
  dsimp only
  rw [h2]
theorem aug_ok {i : Nat} {o : P → P → Option D} {f : EvD} {σ : Fr} {M M1 : Sto} {d : D} {x y : P} {r : D} (h0 : σ[i]? = some (some (.p x))) (h : f σ M = .ok (.p y) M1) (h2 : o x y = some r) : sAug i o f σ M = .ok (.nx (σ.set i (some r.val))) M1 := by
  rw [x_sAug, h0]
  dsimp only
  rw [h]
  show (match o x y with
    | some d => Out.ok d M1
    | none => .no).toS σ _ = _
  rw [h2]
  rfl
theorem rng_ok {n : Nat} {fs : EvA} {σ : Fr} {M M1 : Sto} (h : fs σ M = .ok [.p (.int (n : Int))] M1) (hl : n ≤ lim) : iRange1 fs σ M = .ok (rgs 0 n) M1 := by
  simp only [iRange1, h, Out.bind, rg_ok hl, if_true, Int.toNat_natCast]
def wearS (rb : List (Str × Int)) (st : List Int) (b : Int) (l : Str) (lines place : Int) : Int :=
  ((List.range (cs l).length).map fun i => ((hitN (standS rb st b l 0 i) (stepsS st (cs l)) (2 * lenS rb) place lines : Nat) : Int) + hitN (standS rb st b l 0 i) (stepsS st (cs l)) (2 * lenS rb) (2 * lenS rb - 1 - place) lines).sum
def offPut (best : Option (Int × Int)) (i : Nat) : Option Int → Option (Int × Int)
  | none => best
  | some y => match best with
    | none => some (y, i)
    | some z => if y < z.1 then some (y, i) else some z
def offStep (rb : List (Str × Int)) (st : List Int) (b : Int) (l w : Str) (best : Option (Int × Int)) (i : Nat) (c : Nat) : Option (Int × Int) :=
  offPut best i (if (cs w)[i]? ≠ some c then byS rb st b l i (sg c) else none)
def offS (rb : List (Str × Int)) (st : List Int) (b : Int) (l w : Str) : Option (Int × Int) :=
  (List.range (cs l).length).foldl (fun best i => [98, 103, 114].foldl (fun best c => offStep rb st b l w best i c) best) none
def optPr : Option (Int × Int) → P
  | none => .non
  | some p => prP p
theorem sg_inj {a c : Nat} : sg a = sg c ↔ a = c := ⟨fun h => by
  have := congrArg cs h
  simpa using this, fun h => by rw [h]⟩
section
variable {rb : List (Str × Int)} {st : List Int} {b : Int} {l w : Str} {M : Sto}
theorem oIx_s {i c : Nat} (hw : (cs w).length ≤ lim) (h : (cs w)[i]? = some c) : oIx (.str w) (.int (i : Int)) = some (.p (.str (sg c))) := by
  have hi := (List.getElem?_eq_some_iff.mp h).1
  show (if w.length ≤ lim then (L2.atI w.cps.toList (i : Int)).map fun c => D.p (.str ⟨#[c]⟩) else none) = _
  rw [if_pos (by rw [len_cs]; exact hw)]
  have : L2.atI w.cps.toList (i : Int) = some c := by
    unfold L2.atI L2.ixN
    have k : (0 : Int) ≤ (i : Int) ∧ (i : Int) < ((cs w).length : Int) := by omega
    simp only [Array.length_toList] at k ⊢
    simp [k.1, k.2]
    simpa using h
  rw [this]
  rfl
end
end Ev


set_option linter.all false
set_option maxRecDepth 100000
set_option maxHeartbeats 4000000
/-! Spec12: lists of the store; moved_back, shared, joined. -/
namespace Ev
open PySem
theorem st_get {M : Sto} {x : MO} : (M ++ [x])[M.length]? = some x := by simp
theorem st_set {M : Sto} {x y : MO} : (M ++ [x]).set M.length y = M ++ [y] := by
  induction M with
  | nil => rfl
  | cons a r ih => simpa using ih
theorem st_take {M : Sto} {x : MO} : (M ++ [x]).take M.length = M := by simp
theorem setM_ok {i : Nat} {f : EvD} {σ : Fr} {M M1 : Sto} {ps : List P} (h : f σ M = .ok (.nw ps) M1) : sSetM i f σ M = .ok (.nx (σ.set i (some (.loc M1.length)))) (M1 ++ [.lst ps]) := by
  unfold sSetM
  rw [h]
  rfl
theorem app_ok {i : Nat} {fs : EvA} {σ : Fr} {M : Sto} {ps : List P} {q : P} (h1 : σ[i]? = some (some (.loc M.length))) (h2 : fs σ (M ++ [.lst ps]) = .ok [.p q] (M ++ [.lst ps])) (h3 : ps.length < lim) :
    sExpr (eLm appK (eVar i) fs) σ (M ++ [.lst ps]) = .ok (.nx σ) (M ++ [.lst (ps ++ [q])]) := by
  refine exp_ok (d := .p .non) ?_
  unfold eLm
  simp only [x_eVar, h1, Out.bind, st_get]
  rw [h2]
  simp only [appK, st_get, if_pos h3, st_set]
theorem ext_ok {i : Nat} {fs : EvA} {σ : Fr} {M : Sto} {ps qs : List P} (h1 : σ[i]? = some (some (.loc M.length))) (h2 : fs σ (M ++ [.lst ps]) = .ok [.p (.lst qs)] (M ++ [.lst ps])) (h3 : ps.length + qs.length ≤ lim) :
    sExpr (eLm extK (eVar i) fs) σ (M ++ [.lst ps]) = .ok (.nx σ) (M ++ [.lst (ps ++ qs)]) := by
  refine exp_ok (d := .p .non) ?_
  unfold eLm
  simp only [x_eVar, h1, Out.bind, st_get]
  rw [h2]
  simp only [extK, st_get, if_pos h3, st_set]
theorem lv_l {b : EvS} {σ : Fr} {M : Sto} {ps : List P} (h : b σ M = .ok (.rt (.loc M.length)) (M ++ [.lst ps])) : leave M.length (b σ M) = .ok (.nw ps) M := by
  rw [h]
  simp only [leave, Nat.lt_irrefl, if_false, st_get, st_take]
theorem tu2 {a b : Nat} {p q : P} {σ : Fr} : tgA (.tu [.nm a, .nm b]) (.tup [p, q]) σ = some ((σ.set a (some (.p p))).set b (some (.p q))) := by simp
def movedR (by_ R : Int) (a : Int × Int) : List (Int × Int) :=
  if (a.1 - by_) % R + a.2 - a.1 < R then [((a.1 - by_) % R, (a.1 - by_) % R + a.2 - a.1)] else [((a.1 - by_) % R, R - 1), (0, (a.1 - by_) % R + a.2 - a.1 - R)]
def movedS (by_ R : Int) (L : List (Int × Int)) : List (Int × Int) := L.flatMap (movedR by_ R)
def bM : EvS := (sSeq (sSet 6 (eBin oMod (eBin oSub (eVar 4) (eVar 1)) (eVar 2)))
    (sSeq (sSet 7 (eBin oSub (eBin oAdd (eVar 6) (eVar 5)) (eVar 4)))
    (sSeq (sIf (bOf (eBin oLt (eVar 7) (eVar 2))) (sSeq (sExpr (eLm appK (eVar 3) (aCons (eTup (aCons (eVar 6) (aCons (eVar 7) aNil))) aNil)))
    sNil) (sSeq (sExpr (eLm extK (eVar 3) (aCons (eLst (aCons (eTup (aCons (eVar 6) (aCons (eBin oSub (eVar 2) (eC (.int 1))) aNil))) (aCons (eTup (aCons (eC (.int 0)) (aCons (eBin oSub (eVar 7) (eVar 2)) aNil))) aNil))) aNil)))
    sNil))
    sNil)))
theorem two_lim : 2 ≤ lim := Nat.le_trans (by decide) lim_big
theorem bM_ok {r0 : Option D} {by_ R f l : Int} {x6 x7 : Option D} {M : Sto} {acc : List (Int × Int)} (hR : 0 < R) (hl : acc.length + (movedR by_ R (f, l)).length ≤ lim) :
    ∃ y6 y7, bM [r0, some (.p (.int by_)), some (.p (.int R)), some (.loc M.length), some (.p (.int f)), some (.p (.int l)), x6, x7] (M ++ [.lst (acc.map prP)]) =
      .ok (.nx [r0, some (.p (.int by_)), some (.p (.int R)), some (.loc M.length), some (.p (.int f)), some (.p (.int l)), y6, y7]) (M ++ [.lst ((acc ++ movedR by_ R (f, l)).map prP)]) := by
  have l2 := two_lim
  generalize hz : (f - by_) % R = z
  refine ⟨some (.p (.int z)), some (.p (.int (z + l - f))), ?_⟩
  unfold bM
  unfold movedR at hl ⊢
  dsimp only at hl ⊢
  rw [hz] at hl ⊢
  refine Eq.trans (seq_ok (set_ok (d := .p (.int z)) (M1 := M ++ [MO.lst (acc.map prP)]) (bin_ok (d1 := .p (.int (f - by_))) (d2 := .p (.int R)) (M1 := M ++ [MO.lst (acc.map prP)]) rfl rfl rfl rfl (by rw [o_mod_i hR, hz])))) ?_
  refine Eq.trans (seq_ok (set_ok (d := .p (.int (z + l - f))) (M1 := M ++ [MO.lst (acc.map prP)]) rfl)) ?_
  by_cases h : z + l - f < R
  · rw [if_pos h] at hl ⊢
    refine Eq.trans (seq_ok (Eq.trans (if_t (M1 := M ++ [MO.lst (acc.map prP)]) ?_) (seq_ok (app_ok (q := prP (z, z + l - f)) rfl ?_ ?_)))) ?_
    · show Out.ok (decide (z + l - f < R)) _ = _
      rw [decide_eq_true h]
    · simp [l2, prP]
    · simp only [List.length_map, List.length_cons, List.length_nil] at hl ⊢; omega
    · rw [List.map_append]; rfl
  · rw [if_neg h] at hl ⊢
    refine Eq.trans (seq_ok (Eq.trans (if_f (M1 := M ++ [MO.lst (acc.map prP)]) ?_) (seq_ok (ext_ok (qs := [prP (z, R - 1), prP (0, z + l - f - R)]) rfl ?_ ?_)))) ?_
    · show Out.ok (decide (z + l - f < R)) _ = _
      rw [decide_eq_false h]
    · simp [l2, prP]
    · simp only [List.length_map, List.length_cons, List.length_nil] at hl ⊢; omega
    · rw [List.map_append]; rfl
theorem moved_loop {r0 : Option D} {by_ R : Int} {M : Sto} (hR : 0 < R) : ∀ (L acc : List (Int × Int)) (x4 x5 x6 x7 : Option D), acc.length + (movedS by_ R L).length ≤ lim →
    ∃ y4 y5 y6 y7, forL (.tu [.nm 4, .nm 5]) bM (L.map prP) [r0, some (.p (.int by_)), some (.p (.int R)), some (.loc M.length), x4, x5, x6, x7] (M ++ [.lst (acc.map prP)]) =
      .ok (.nx [r0, some (.p (.int by_)), some (.p (.int R)), some (.loc M.length), y4, y5, y6, y7]) (M ++ [.lst ((acc ++ movedS by_ R L).map prP)])
  | [], acc, x4, x5, x6, x7, _ => ⟨x4, x5, x6, x7, by simp [movedS, forL_nil]⟩
  | a :: L, acc, x4, x5, x6, x7, hl => by
    have e0 : movedS by_ R (a :: L) = movedR by_ R a ++ movedS by_ R L := by simp [movedS]
    rw [e0, List.length_append] at hl
    obtain ⟨z6, z7, e1⟩ := bM_ok (r0 := r0) (x6 := x6) (x7 := x7) (M := M) (f := a.1) (l := a.2) (acc := acc) (by_ := by_) hR (by show acc.length + (movedR by_ R a).length ≤ lim; omega)
    obtain ⟨y4, y5, y6, y7, e2⟩ := moved_loop (r0 := r0) (M := M) (by_ := by_) hR L (acc ++ movedR by_ R a) (some (.p (.int a.1))) (some (.p (.int a.2))) z6 z7 (by rw [List.length_append]; omega)
    refine ⟨y4, y5, y6, y7, ?_⟩
    rw [e0, ← List.append_assoc]
    exact Eq.trans (forL_nx tu2 e1) e2
def maxI (i j : Int) : Int := if j > i then j else i
def minI (i j : Int) : Int := if j < i then j else i
def shareR (a b : Int × Int) : Option (Int × Int) := if maxI a.1 b.1 ≤ minI a.2 b.2 then some (maxI a.1 b.1, minI a.2 b.2) else none
def sharedS (A B : List (Int × Int)) : List (Int × Int) := A.flatMap fun a => B.filterMap (shareR a)
def bS5 : EvS := (sSeq (sIf (bOf (eBin oLe (eCB cMax (aCons (eVar 3) (aCons (eVar 5) aNil))) (eCB cMin (aCons (eVar 4) (aCons (eVar 6) aNil))))) (sSeq (sExpr (eLm appK (eVar 2) (aCons (eTup (aCons (eCB cMax (aCons (eVar 3) (aCons (eVar 5) aNil))) (aCons (eCB cMin (aCons (eVar 4) (aCons (eVar 6) aNil))) aNil))) aNil)))
    sNil) sNil)
    sNil)
theorem bS5_ok {r0 r1 : Option D} {a b : Int × Int} {M : Sto} {acc : List (Int × Int)} (hl : acc.length < lim ∨ shareR a b = none) :
    bS5 [r0, r1, some (.loc M.length), some (.p (.int a.1)), some (.p (.int a.2)), some (.p (.int b.1)), some (.p (.int b.2))] (M ++ [.lst (acc.map prP)]) =
      .ok (.nx [r0, r1, some (.loc M.length), some (.p (.int a.1)), some (.p (.int a.2)), some (.p (.int b.1)), some (.p (.int b.2))]) (M ++ [.lst ((acc ++ (shareR a b).toList).map prP)]) := by
  have l2 := two_lim
  unfold bS5
  unfold shareR at hl ⊢
  by_cases h : maxI a.1 b.1 ≤ minI a.2 b.2
  · rw [if_pos h] at hl ⊢
    have hl : acc.length < lim := by rcases hl with z | z; exact z; cases z
    refine Eq.trans (seq_ok (Eq.trans (if_t (M1 := M ++ [MO.lst (acc.map prP)]) ?_) (seq_ok (app_ok (q := prP (maxI a.1 b.1, minI a.2 b.2)) rfl ?_ ?_)))) ?_
    · show Out.ok (decide (maxI a.1 b.1 ≤ minI a.2 b.2)) _ = _
      rw [decide_eq_true h]
    · simp [l2, prP, cMax, cMin, maxI, minI]
    · simpa using hl
    · rw [List.map_append]; rfl
  · rw [if_neg h]
    refine Eq.trans (seq_ok (Eq.trans (if_f (M1 := M ++ [MO.lst (acc.map prP)]) ?_) rfl)) ?_
    · show Out.ok (decide (maxI a.1 b.1 ≤ minI a.2 b.2)) _ = _
      rw [decide_eq_false h]
    · rw [Option.toList, List.append_nil]; rfl
theorem shared_in {r0 r1 : Option D} {a : Int × Int} {M : Sto} : ∀ (B acc : List (Int × Int)) (x5 x6 : Option D), acc.length + (B.filterMap (shareR a)).length ≤ lim →
    ∃ y5 y6, forL (.tu [.nm 5, .nm 6]) bS5 (B.map prP) [r0, r1, some (.loc M.length), some (.p (.int a.1)), some (.p (.int a.2)), x5, x6] (M ++ [.lst (acc.map prP)]) =
      .ok (.nx [r0, r1, some (.loc M.length), some (.p (.int a.1)), some (.p (.int a.2)), y5, y6]) (M ++ [.lst ((acc ++ B.filterMap (shareR a)).map prP)])
  | [], acc, x5, x6, _ => ⟨x5, x6, by simp [forL_nil]⟩
  | b :: B, acc, x5, x6, hl => by
    have e0 : (b :: B).filterMap (shareR a) = (shareR a b).toList ++ B.filterMap (shareR a) := by
      rw [List.filterMap_cons]; cases shareR a b <;> rfl
    rw [e0, List.length_append] at hl
    have e1 := bS5_ok (r0 := r0) (r1 := r1) (a := a) (b := b) (M := M) (acc := acc) (by
      cases hs : shareR a b with
      | none => exact .inr rfl
      | some y => rw [hs] at hl; simp at hl; exact .inl (by omega))
    obtain ⟨y5, y6, e2⟩ := shared_in (r0 := r0) (r1 := r1) (M := M) (a := a) B (acc ++ (shareR a b).toList) (some (.p (.int b.1))) (some (.p (.int b.2))) (by rw [List.length_append]; omega)
    refine ⟨y5, y6, ?_⟩
    rw [e0, ← List.append_assoc]
    exact Eq.trans (forL_nx tu2 e1) e2
theorem shared_out {r0 : Option D} {B : List (Int × Int)} {M : Sto} : ∀ (A acc : List (Int × Int)) (x3 x4 x5 x6 : Option D), acc.length + (sharedS A B).length ≤ lim →
    ∃ y3 y4 y5 y6, forL (.tu [.nm 3, .nm 4]) (sSeq (sFor (.tu [.nm 5, .nm 6]) (iOf (eVar 1)) bS5) sNil) (A.map prP) [r0, some (.p (.lst (B.map prP))), some (.loc M.length), x3, x4, x5, x6] (M ++ [.lst (acc.map prP)]) =
      .ok (.nx [r0, some (.p (.lst (B.map prP))), some (.loc M.length), y3, y4, y5, y6]) (M ++ [.lst ((acc ++ sharedS A B).map prP)])
  | [], acc, x3, x4, x5, x6, _ => ⟨x3, x4, x5, x6, by simp [sharedS, forL_nil]⟩
  | a :: A, acc, x3, x4, x5, x6, hl => by
    have e0 : sharedS (a :: A) B = B.filterMap (shareR a) ++ sharedS A B := by simp [sharedS]
    rw [e0, List.length_append] at hl
    obtain ⟨z5, z6, e1⟩ := shared_in (r0 := r0) (r1 := some (.p (.lst (B.map prP)))) (a := a) (M := M) B acc x5 x6 (by omega)
    obtain ⟨y3, y4, y5, y6, e2⟩ := shared_out (r0 := r0) (M := M) (B := B) A (acc ++ B.filterMap (shareR a)) (some (.p (.int a.1))) (some (.p (.int a.2))) z5 z6 (by rw [List.length_append]; omega)
    refine ⟨y3, y4, y5, y6, ?_⟩
    rw [e0, ← List.append_assoc]
    refine Eq.trans (forL_nx tu2 (seq_ok (Eq.trans (for_ok (ps := B.map prP) (M1 := M ++ [MO.lst (acc.map prP)]) rfl) e1))) e2
end Ev


set_option linter.all false
set_option maxRecDepth 100000
set_option maxHeartbeats 4000000
/-! Spec16: the spool; what is drawn. -/
namespace Ev
open PySem
theorem o_mod_r {i j : Int} (h : 0 < j) : oMod (.int i) (.int j) = some (.p (.int (i % j))) := o_mod_i h
theorem c_len_c' {a : List Int} : cLen [.scr a] = some (.p (.int a.length)) := rfl
theorem big_pow : oPow (.int 10) (.int 18) = some (.p (.int (10 ^ 18))) := by kernel_rfl
theorem mul_r {i j : Int} (h1 : 0 ≤ j) (h2 : j < 2 ^ 64) : oMul (.int i) (.int j) = some (.p (.int (i * j))) := oMul_ok (mulOk_r h1 h2)
theorem mul_l {i j : Int} (h1 : 0 ≤ i) (h2 : i < 2 ^ 64) : oMul (.int i) (.int j) = some (.p (.int (i * j))) := oMul_ok (mulOk_l h1 h2)
theorem atI_nat {α : Type} {l : List α} {k : Nat} (h : k < l.length) : L2.atI l (k : Int) = some l[k] := by
  unfold L2.atI L2.ixN
  rw [if_pos (by omega), if_pos (by omega)]
  simp [h]
theorem sp_spool {ns : List Int} {k : Nat} {M : Sto} : ∃ a b, 0 ≤ a ∧ F__law_spool [.p (.scr ns), .p (.int (k : Int))] M = .ok (.nw [.int a, .int b]) M := by
  have l2 := two_lim
  have tail : ∀ cell : Int, 0 ≤ cell → ∃ a b, 0 ≤ a ∧ sSeq (sRet (eLst (aCons (eIf (bOf (eBin oGe (eVar 2) (eBin oPow (eC (.int 10)) (eC (.int 18))))) (eVar 2) (eC (.int 0))) (aCons (eBin oAdd (eBin oMod (eCB cInt (aCons (eBin oAdd (eBin oAdd (eBin oMul (eVar 2) (eC (.int 71))) (eBin oMul (eC (.int 4603)) (eVar 1))) (eC (.int 57))) aNil)) (eC (.int 2147483423))) (eC (.int 1))) aNil)))) sNil [some (.p (.scr ns)), some (.p (.int (k : Int))), some (.p (.int cell))] M = .ok (.rt (.nw [.int a, .int b])) M := by
    intro cell hc
    have e2 : eBin oAdd (eBin oMod (eCB cInt (aCons (eBin oAdd (eBin oAdd (eBin oMul (eVar 2) (eC (.int 71))) (eBin oMul (eC (.int 4603)) (eVar 1))) (eC (.int 57))) aNil)) (eC (.int 2147483423))) (eC (.int 1)) [some (.p (.scr ns)), some (.p (.int (k : Int))), some (.p (.int cell))] M = .ok (.p (.int ((cell * 71 + 4603 * k + 57) % 2147483423 + 1))) M := by
      refine bin_ok (d1 := .p (.int ((cell * 71 + 4603 * k + 57) % 2147483423))) (d2 := .p (.int 1)) (M1 := M) ?_ rfl rfl rfl rfl
      refine bin_ok (d1 := .p (.int (cell * 71 + 4603 * k + 57))) (d2 := .p (.int 2147483423)) (M1 := M) ?_ rfl rfl rfl (o_mod_i (by decide))
      refine callB_ok (ds := [.p (.int (cell * 71 + 4603 * k + 57))]) (ps := [.int (cell * 71 + 4603 * k + 57)]) (cons_ok (d := .p (.int (cell * 71 + 4603 * k + 57))) (M1 := M) ?_ nil_ok) rfl rfl
      refine bin_ok (d1 := .p (.int (cell * 71 + 4603 * k))) (d2 := .p (.int 57)) (M1 := M) ?_ rfl rfl rfl rfl
      refine bin_ok (d1 := .p (.int (cell * 71))) (d2 := .p (.int (4603 * k))) (M1 := M) ?_ ?_ rfl rfl rfl
      · exact bin_ok (d1 := .p (.int cell)) (d2 := .p (.int 71)) (M1 := M) rfl rfl rfl rfl (mul_r (by decide) (by decide))
      · exact bin_ok (d1 := .p (.int 4603)) (d2 := .p (.int (k : Int))) (M1 := M) rfl rfl rfl rfl (mul_l (by decide) (by decide))
    have ep : eBin oGe (eVar 2) (eBin oPow (eC (.int 10)) (eC (.int 18))) [some (.p (.scr ns)), some (.p (.int (k : Int))), some (.p (.int cell))] M = .ok (.p (.bl (decide (10 ^ 18 ≤ cell)))) M := by
      refine bin_ok (d1 := .p (.int cell)) (d2 := .p (.int (10 ^ 18))) (M1 := M) rfl ?_ rfl rfl rfl
      exact bin_ok (d1 := .p (.int 10)) (d2 := .p (.int 18)) (M1 := M) rfl rfl rfl rfl big_pow
    by_cases hb : (10 : Int) ^ 18 ≤ cell
    · rw [decide_eq_true hb] at ep
      refine ⟨cell, _, hc, seq_rt (ret_ok (lst_ok (ds := [.p (.int cell), .p (.int ((cell * 71 + 4603 * k + 57) % 2147483423 + 1))]) (cons_ok (d := .p (.int cell)) (M1 := M) (Eq.trans (ife_t (bof_ok ep)) rfl) (cons_ok (d := .p (.int ((cell * 71 + 4603 * k + 57) % 2147483423 + 1))) (M1 := M) e2 nil_ok)) rfl ?_))⟩
      exact l2
    · rw [decide_eq_false hb] at ep
      refine ⟨0, _, Int.le_refl _, seq_rt (ret_ok (lst_ok (ds := [.p (.int 0), .p (.int ((cell * 71 + 4603 * k + 57) % 2147483423 + 1))]) (cons_ok (d := .p (.int 0)) (M1 := M) (Eq.trans (ife_f (bof_ok ep)) rfl) (cons_ok (d := .p (.int ((cell * 71 + 4603 * k + 57) % 2147483423 + 1))) (M1 := M) e2 nil_ok)) rfl ?_))⟩
      exact l2
  have ec : eBin oLt (eVar 1) (eCB cLen (aCons (eVar 0) aNil)) [some (.p (.scr ns)), some (.p (.int (k : Int))), none] M = .ok (.p (.bl (decide ((k : Int) < ns.length)))) M :=
    bin_ok (d1 := .p (.int (k : Int))) (d2 := .p (.int ns.length)) (M1 := M) rfl (callB_ok (ds := [.p (.scr ns)]) (ps := [.scr ns]) (cons_ok (d := .p (.scr ns)) (M1 := M) rfl nil_ok) rfl rfl) rfl rfl rfl
  have fin : ∀ cell : Int, 0 ≤ cell → (eIf (bOf (eBin oLt (eVar 1) (eCB cLen (aCons (eVar 0) aNil)))) (eCB cAbs (aCons (eCB cInt (aCons (eBin oIx (eVar 0) (eVar 1)) aNil)) aNil)) (eBin oAdd (eBin oMul (eC (.int 601)) (eVar 1)) (eC (.int 113)))) [some (.p (.scr ns)), some (.p (.int (k : Int))), none] M = .ok (.p (.int cell)) M → ∃ a b, 0 ≤ a ∧ F__law_spool [.p (.scr ns), .p (.int (k : Int))] M = .ok (.nw [.int a, .int b]) M := by
    intro cell hc e
    obtain ⟨a, b, h0, e2⟩ := tail cell hc
    refine ⟨a, b, h0, ?_⟩
    unfold F__law_spool
    rw [fnB2]
    refine lv_n ?_
    unfold b__law_spool
    exact Eq.trans (seq_ok (set_ok (d := .p (.int cell)) (M1 := M) e)) e2
  by_cases hk : k < ns.length
  · have hk' : (k : Int) < ns.length := by omega
    rw [decide_eq_true hk'] at ec
    refine fin (if ns[k] < 0 then -ns[k] else ns[k]) (by split <;> omega) ?_
    rw [ife_t (bof_ok ec)]
    refine callB_ok (ds := [.p (.int ns[k])]) (ps := [.int ns[k]]) (cons_ok (d := .p (.int ns[k])) (M1 := M) ?_ nil_ok) rfl rfl
    refine callB_ok (ds := [.p (.int ns[k])]) (ps := [.int ns[k]]) (cons_ok (d := .p (.int ns[k])) (M1 := M) ?_ nil_ok) rfl rfl
    refine bin_ok (d1 := .p (.scr ns)) (d2 := .p (.int (k : Int))) (M1 := M) rfl rfl rfl rfl ?_
    show (L2.atI ns (k : Int)).map _ = _
    rw [atI_nat hk]; rfl
  · have hk' : ¬ (k : Int) < ns.length := by omega
    rw [decide_eq_false hk'] at ec
    refine fin (601 * k + 113) (by omega) ?_
    rw [ife_f (bof_ok ec)]
    refine bin_ok (d1 := .p (.int (601 * k))) (d2 := .p (.int 113)) (M1 := M) ?_ rfl rfl rfl rfl
    exact bin_ok (d1 := .p (.int 601)) (d2 := .p (.int (k : Int))) (M1 := M) rfl rfl rfl rfl (mul_l (by decide) (by decide))
/-! ### the spool in the store -/
def SpAt (M : Sto) (n : Nat) : Prop := ∃ a b : Int, 0 ≤ a ∧ M[n]? = some (.lst [.int a, .int b])
def Spw (n : Nat) (M M' : Sto) : Prop := M' = M ∨ ∃ a b : Int, 0 ≤ a ∧ M' = M.set n (.lst [.int a, .int b])
theorem Spw.at {n : Nat} {M M' : Sto} (h : SpAt M n) (w : Spw n M M') : SpAt M' n := by
  rcases w with rfl | ⟨a, b, h0, rfl⟩
  · exact h
  · obtain ⟨a', b', _, h1⟩ := h
    exact ⟨a, b, h0, List.getElem?_set_self (List.getElem?_eq_some_iff.mp h1).1⟩
theorem Spw.refl {n : Nat} {M : Sto} : Spw n M M := .inl rfl
theorem Spw.trans {n : Nat} {M M1 M2 : Sto} (h : Spw n M M1) (w : Spw n M1 M2) : Spw n M M2 := by
  rcases w with rfl | ⟨a, b, h0, rfl⟩
  · exact h
  · rcases h with rfl | ⟨a', b', h0', rfl⟩
    · exact .inr ⟨a, b, h0, rfl⟩
    · exact .inr ⟨a, b, h0, by rw [List.set_set]⟩
theorem Spw.len {n : Nat} {M M' : Sto} (w : Spw n M M') : M'.length = M.length := by
  rcases w with rfl | ⟨a, b, h0, rfl⟩
  · rfl
  · rw [List.length_set]
theorem ixN0 {n : Nat} : L2.ixN (n + 1) 0 = some 0 := by
  unfold L2.ixN
  rw [if_pos (by omega), if_pos (by omega)]; rfl
theorem ixN1 {n : Nat} : L2.ixN (n + 2) 1 = some 1 := by
  unfold L2.ixN
  rw [if_pos (by omega), if_pos (by omega)]; rfl
theorem oIxl0 {a : P} {l : List P} : oIx (.lst (a :: l)) (.int 0) = some (.p a) := by
  show (L2.atI _ _).map _ = _
  rw [atI0]; rfl
theorem oIxl1 {a b : P} {l : List P} : oIx (.lst (a :: b :: l)) (.int 1) = some (.p b) := by
  show (L2.atI _ _).map _ = _
  rw [atI1]; rfl
theorem getl {M : Sto} {n : Nat} {ps : List P} (h : M[n]? = some (.lst ps)) : D.get M (.loc n) = some (.lst ps) := by
  rw [x_getl, h]
theorem sub_ok {fv fo fi : EvD} {σ : Fr} {M M1 M2 M3 : Sto} {d : D} {q : P} {n j : Nat} {k : Int} {ps : List P} (h1 : fv σ M = .ok d M1) (hd : d.val = .p q) (h2 : fo σ M1 = .ok (.loc n) M2) (h3 : fi σ M2 = .ok (.p (.int k)) M3)
    (h4 : M3[n]? = some (.lst ps)) (h5 : L2.ixN ps.length k = some j) : sSub fv fo fi σ M = .ok (.nx σ) (M3.set n (.lst (ps.set j q))) := by
  unfold sSub
  rw [h1]
  show (fo σ M1).toS σ _ = _
  rw [h2]
  show (fi σ M2).toS σ _ = _
  rw [h3]
  show (match d.val, D.loc n, D.p (.int k) with
  | .p q, .loc n, .p (.int k) => (match M3[n]? with
    | some (.lst ps) => (match L2.ixN ps.length k with
      | some j => OutS.ok (.nx σ) (M3.set n (.lst (ps.set j q)))
      | none => .no)
    | _ => .no)
  | _, _, _ => .no) = _
  rw [hd]
  dsimp only
  rw [h4]
  dsimp only
  rw [h5]
theorem sp_unwind {M : Sto} {n : Nat} {most : Int} (h : SpAt M n) (hm : 0 < most) (hm2 : most.natAbs < 2 ^ 1000) :
    ∃ r M', F__law_unwind [.loc n, .p (.int most)] M = .ok (.p (.int r)) M' ∧ Spw n M M' ∧ 0 ≤ r ∧ r < most := by
  obtain ⟨a, b, ha, hM⟩ := h
  have hn : n < M.length := (List.getElem?_eq_some_iff.mp hM).1
  have leave_ : ∀ {M' : Sto} {r : Int} {s : EvS} {σ : Fr}, s σ M = .ok (.rt (.p (.int r))) M' → M'.length = M.length → leave M.length (s σ M) = .ok (.p (.int r)) M' := by
    intro M' r s σ e hl
    rw [e, x_lv_p, ← hl, List.take_length]
  have i0 : ∀ σ : Fr, σ[0]? = some (some (.loc n)) → ∀ M a b, M[n]? = some (.lst [.int a, .int b]) → eBin oIx (eVar 0) (eC (.int 0)) σ M = .ok (.p (.int a)) M := fun σ h0 M a b hM =>
    bin_ok (d1 := .loc n) (d2 := .p (.int 0)) (M1 := M) (by rw [x_eVar, h0]) rfl (getl hM) rfl oIxl0
  have i1 : ∀ σ : Fr, σ[0]? = some (some (.loc n)) → ∀ M a b, M[n]? = some (.lst [.int a, .int b]) → eBin oIx (eVar 0) (eC (.int 1)) σ M = .ok (.p (.int b)) M := fun σ h0 M a b hM =>
    bin_ok (d1 := .loc n) (d2 := .p (.int 1)) (M1 := M) (by rw [x_eVar, h0]) rfl (getl hM) rfl oIxl1
  by_cases hp : 0 < a
  · refine ⟨a % most, M.set n (.lst [.int (a / most), .int b]), ?_, .inr ⟨_, _, Int.ediv_nonneg ha (Int.le_of_lt hm), rfl⟩, Int.emod_nonneg _ (Int.ne_of_gt hm), Int.emod_lt_of_pos _ hm⟩
    unfold F__law_unwind
    rw [fnB2]
    refine leave_ ?_ (by rw [List.length_set])
    unfold b__law_unwind
    have ec : eBin oGt (eBin oIx (eVar 0) (eC (.int 0))) (eC (.int 0)) [some (.loc n), some (.p (.int most)), none, none] M = .ok (.p (.bl (decide (0 < a)))) M :=
      bin_ok (d1 := .p (.int a)) (d2 := .p (.int 0)) (M1 := M) (i0 _ rfl _ _ _ hM) rfl rfl rfl rfl
    rw [decide_eq_true hp] at ec
    refine seq_rt (Eq.trans (if_t (bof_ok ec)) ?_)
    refine Eq.trans (seq_ok (set_ok (d := .p (.int (a % most))) (M1 := M) ?_)) ?_
    · refine bin_ok (d1 := .p (.int a)) (d2 := .p (.int most)) (M1 := M) ?_ rfl rfl rfl (o_mod_i hm)
      exact callB_ok (ds := [.p (.int a)]) (ps := [.int a]) (cons_ok (d := .p (.int a)) (M1 := M) (i0 _ rfl _ _ _ hM) nil_ok) rfl rfl
    refine Eq.trans (seq_ok (sub_ok (d := .p (.int (a / most))) (q := .int (a / most)) (n := n) (j := 0) (k := 0) (ps := [.int a, .int b]) (M1 := M) (M2 := M) (M3 := M) ?_ rfl rfl rfl hM ixN0)) ?_
    · exact bin_ok (d1 := .p (.int a)) (d2 := .p (.int most)) (M1 := M) (i0 _ rfl _ _ _ hM) rfl rfl rfl (oFdiv_ok hm hm2)
    exact seq_rt (ret_ok rfl)
  · let b' := (b * 42293 + 239) % 2147483423
    have hb0 : 0 ≤ b' := Int.emod_nonneg _ (by decide)
    have hb1 : b' < 2147483423 := Int.emod_lt_of_pos _ (by decide)
    have gb : (b * 42293 + 239) % 2147483423 = b' := rfl
    generalize b' = b1 at hb0 hb1 gb
    let M1 := M.set n (.lst [.int a, .int b1])
    have hM1 : M1[n]? = some (.lst [.int a, .int b1]) := List.getElem?_set_self hn
    let wd := b1 * (b1 / 5 + 61) % 2147483399
    refine ⟨wd / 32 % most, M1, ?_, .inr ⟨_, _, ha, rfl⟩, Int.emod_nonneg _ (Int.ne_of_gt hm), Int.emod_lt_of_pos _ hm⟩
    unfold F__law_unwind
    rw [fnB2]
    refine leave_ ?_ (by show (M.set n _).length = _; rw [List.length_set])
    unfold b__law_unwind
    have ec : eBin oGt (eBin oIx (eVar 0) (eC (.int 0))) (eC (.int 0)) [some (.loc n), some (.p (.int most)), none, none] M = .ok (.p (.bl (decide (0 < a)))) M :=
      bin_ok (d1 := .p (.int a)) (d2 := .p (.int 0)) (M1 := M) (i0 _ rfl _ _ _ hM) rfl rfl rfl rfl
    rw [decide_eq_false hp] at ec
    refine Eq.trans (seq_ok (Eq.trans (if_f (bof_ok ec)) rfl)) ?_
    refine Eq.trans (seq_ok (sub_ok (d := .p (.int b1)) (q := .int b1) (n := n) (j := 1) (k := 1) (ps := [.int a, .int b]) (M1 := M) (M2 := M) (M3 := M) ?_ rfl rfl rfl hM ixN1)) ?_
    · rw [← gb]
      refine bin_ok (d1 := .p (.int (b * 42293 + 239))) (d2 := .p (.int 2147483423)) (M1 := M) ?_ rfl rfl rfl (o_mod_i (by decide))
      refine callB_ok (ds := [.p (.int (b * 42293 + 239))]) (ps := [.int (b * 42293 + 239)]) (cons_ok (d := .p (.int (b * 42293 + 239))) (M1 := M) ?_ nil_ok) rfl rfl
      refine bin_ok (d1 := .p (.int (b * 42293))) (d2 := .p (.int 239)) (M1 := M) ?_ rfl rfl rfl rfl
      exact bin_ok (d1 := .p (.int b)) (d2 := .p (.int 42293)) (M1 := M) (i1 _ rfl _ _ _ hM) rfl rfl rfl (mul_r (by decide) (by decide))
    show sSeq _ _ _ M1 = _
    refine Eq.trans (seq_ok (set_ok (d := .p (.int wd)) (M1 := M1) ?_)) ?_
    · refine bin_ok (d1 := .p (.int (b1 * (b1 / 5 + 61)))) (d2 := .p (.int 2147483399)) (M1 := M1) ?_ rfl rfl rfl (o_mod_i (by decide))
      refine callB_ok (ds := [.p (.int (b1 * (b1 / 5 + 61)))]) (ps := [.int (b1 * (b1 / 5 + 61))]) (cons_ok (d := .p (.int (b1 * (b1 / 5 + 61)))) (M1 := M1) ?_ nil_ok) rfl rfl
      refine bin_ok (d1 := .p (.int b1)) (d2 := .p (.int (b1 / 5 + 61))) (M1 := M1) (i1 _ rfl _ _ _ hM1) ?_ rfl rfl (mul_l hb0 (Int.lt_trans hb1 (by decide)))
      refine bin_ok (d1 := .p (.int (b1 / 5))) (d2 := .p (.int 61)) (M1 := M1) ?_ rfl rfl rfl rfl
      exact bin_ok (d1 := .p (.int b1)) (d2 := .p (.int 5)) (M1 := M1) (i1 _ rfl _ _ _ hM1) rfl rfl rfl (oFdiv_ok (by decide) (by decide +kernel))
    refine seq_rt (ret_ok ?_)
    refine bin_ok (d1 := .p (.int (wd / 32))) (d2 := .p (.int most)) (M1 := M1) ?_ rfl rfl rfl (o_mod_i hm)
    refine callB_ok (ds := [.p (.int (wd / 32))]) (ps := [.int (wd / 32)]) (cons_ok (d := .p (.int (wd / 32))) (M1 := M1) ?_ nil_ok) rfl rfl
    exact bin_ok (d1 := .p (.int wd)) (d2 := .p (.int 32)) (M1 := M1) rfl rfl rfl rfl (oFdiv_ok (by decide) (by decide +kernel))
theorem sp_pick {M : Sto} {n : Nat} {d : D} {ps : List P} (h : SpAt M n) (hd : d = .p (.lst ps) ∨ d = .p (.tup ps)) (h0 : ps ≠ []) (hl : ps.length ≤ 1000) :
    ∃ q M', F__law_pick [.loc n, d] M = .ok (.p q) M' ∧ Spw n M M' ∧ q ∈ ps := by
  have hp : (0 : Int) < ps.length := by
    have := List.length_pos_iff.mpr h0
    omega
  have h1000 : (1000 : Nat) < 2 ^ 1000 := by decide +kernel
  obtain ⟨r, M', e, w, r0, r1⟩ := sp_unwind (most := ps.length) h hp (by omega)
  have hr : r.toNat < ps.length := by omega
  refine ⟨ps[r.toNat], M', ?_, w, List.getElem_mem hr⟩
  have hix : L2.atI ps r = some ps[r.toNat] := by
    have := atI_nat hr
    rwa [Int.toNat_of_nonneg r0] at this
  unfold F__law_pick
  rw [fnB2]
  have fin : ∀ q : P, (q = .lst ps ∨ q = .tup ps) → leave M.length (b__law_pick (some (.loc n) :: some (.p q) :: List.replicate (2 - 2) none) M) = .ok (.p ps[r.toNat]) M' := by
    intro q hq
    have e1 : b__law_pick (some (.loc n) :: some (.p q) :: List.replicate (2 - 2) none) M = .ok (.rt (.p ps[r.toNat])) M' := by
      unfold b__law_pick
      refine seq_rt (ret_ok (bin_ok (d1 := .p q) (d2 := .p (.int r)) (M1 := M) rfl (call_ok (n := 2) (ds := [.loc n, .p (.int ps.length)]) (M1 := M) (cons_ok (d := .loc n) (M1 := M) rfl (cons_ok (d := .p (.int ps.length)) (M1 := M) (callB_ok (ds := [.p q]) (ps := [q]) (cons_ok (d := .p q) (M1 := M) rfl nil_ok) rfl ?_) nil_ok)) rfl e) rfl rfl ?_))
      · rcases hq with rfl | rfl <;> rfl
      · rcases hq with rfl | rfl
        · show (L2.atI ps r).map _ = _
          rw [hix]; rfl
        · show (L2.atI ps r).map _ = _
          rw [hix]; rfl
    rw [e1, x_lv_p, ← w.len, List.take_length]
  rcases hd with rfl | rfl
  · exact fin _ (.inl rfl)
  · exact fin _ (.inr rfl)
theorem forL_inv {t : Tg} {b : EvS} (I : Fr → Sto → Prop) : ∀ (ps : List P) (σ : Fr) (M : Sto), I σ M → (∀ p ∈ ps, ∀ σ M, I σ M → ∃ σ1 σ2 M2, tgA t p σ = some σ1 ∧ b σ1 M = .ok (.nx σ2) M2 ∧ I σ2 M2) → ∃ σ' M', forL t b ps σ M = .ok (.nx σ') M' ∧ I σ' M'
  | [], σ, M, i, _ => ⟨σ, M, rfl, i⟩
  | p :: ps, σ, M, i, h => by
    obtain ⟨σ1, σ2, M2, e1, e2, i2⟩ := h p List.mem_cons_self σ M i
    obtain ⟨σ', M', e3, i3⟩ := forL_inv I ps σ2 M2 i2 fun q hq => h q (List.mem_cons_of_mem _ hq)
    exact ⟨σ', M', Eq.trans (forL_nx e1 e2) e3, i3⟩
end Ev


set_option linter.all false
set_option maxRecDepth 100000
set_option maxHeartbeats 4000000
/-! Spec19: standing, colours. -/
namespace Ev
open PySem
section
variable {f fa : EvD} {σ : Fr} {M M1 : Sto}
theorem sNone_ok : sNone σ M = .ok none M := rfl
theorem sSome_ok {i : Int} (h : f σ M = .ok (.p (.int i)) M1) : sSome f σ M = .ok (some i) M1 := by simp [sSome, h]
theorem iof_str {l : Str} (h : f σ M = .ok (.p (.str l)) M1) : iOf f σ M = .ok (chars l) M1 := by rw [x_iOf, h]; rfl
theorem iof_nw {ps : List P} (h : f σ M = .ok (.nw ps) M1) : iOf f σ M = .ok ps M1 := by rw [x_iOf, h]; rfl
theorem iof_lst {ps : List P} (h : f σ M = .ok (.p (.lst ps)) M1) : iOf f σ M = .ok ps M1 := by rw [x_iOf, h]; rfl
theorem iof_tup {ps : List P} (h : f σ M = .ok (.p (.tup ps)) M1) : iOf f σ M = .ok ps M1 := by rw [x_iOf, h]; rfl
theorem lc_rng {x n : Nat} {fi : EvI} {el : EvD} (g : Nat → P) (hi : fi σ M = .ok (rgs 0 n) M) (hl : n ≤ lim) (h : ∀ i, i < n → ∀ M', ∃ d, el ((wipeF σ [x]).set x (some (.p (.int (i : Int))))) M' = .ok d M' ∧ d.val = .p (g i)) :
    eLc (.nm x) [x] fi bYes el σ M = .ok (.nw ((List.range n).map g)) M := by
  have hq : (List.range n).map g = (rgs 0 n).map (fun p => match p with | .int i => g i.toNat | _ => .non) := by simp [rgs, Function.comp_def]
  rw [hq]
  refine eLc_map _ hi (by simp [tgS]) (fun p hp => ?_) (by simp only [rgs, List.length_map, List.length_range]; exact hl)
  obtain ⟨i, hi, rfl⟩ := List.mem_map.mp hp
  refine ⟨_, x_nm, fun M' => ?_⟩
  obtain ⟨d, h1, h2⟩ := h i (by simpa using hi) M'
  exact ⟨d, by simpa using h1, by simpa using h2⟩
theorem lc_str {x : Nat} {l : Str} {fi : EvI} {el : EvD} (g : Nat → P) (hi : fi σ M = .ok (chars l) M) (hl : (cs l).length ≤ lim) (h : ∀ c ∈ cs l, ∀ M', ∃ d, el ((wipeF σ [x]).set x (some (.p (.str (sg c))))) M' = .ok d M' ∧ d.val = .p (g c)) :
    eLc (.nm x) [x] fi bYes el σ M = .ok (.nw ((cs l).map g)) M := by
  rw [show (cs l).map g = (chars l).map (fun p => match p with | .str s => (match cs s with | [c] => g c | _ => .non) | _ => .non) by simp [chars]]
  refine eLc_map _ hi (by simp [tgS]) (fun p hp => ?_) (by simpa [chars] using hl)
  obtain ⟨c, hc, rfl⟩ := List.mem_map.mp hp
  refine ⟨_, x_nm, fun M' => ?_⟩
  obtain ⟨d, h1, h2⟩ := h c hc M'
  exact ⟨d, h1, by simpa using h2⟩
theorem lc_ints {x : Nat} {L : List Int} {fi : EvI} {el : EvD} (g : Int → P) (hi : fi σ M = .ok (L.map P.int) M) (hl : L.length ≤ lim) (h : ∀ c ∈ L, ∀ M', ∃ d, el ((wipeF σ [x]).set x (some (.p (.int c)))) M' = .ok d M' ∧ d.val = .p (g c)) :
    eLc (.nm x) [x] fi bYes el σ M = .ok (.nw (L.map g)) M := by
  rw [show L.map g = (L.map P.int).map (fun p => match p with | .int i => g i | _ => .non) by simp]
  refine eLc_map _ hi (by simp [tgS]) (fun p hp => ?_) (by simpa using hl)
  obtain ⟨c, hc, rfl⟩ := List.mem_map.mp hp
  refine ⟨_, x_nm, fun M' => ?_⟩
  obtain ⟨d, h1, h2⟩ := h c hc M'
  exact ⟨d, h1, by simpa using h2⟩
theorem join_ok {L : List Str} (h : (L.map (·.length)).sum ≤ 1000) : mJoin (.str "") [.lst (L.map P.str)] = some (.p (.str (Txt.join "" L))) := by
  show (match strsOf (L.map P.str) with
    | some ys => if (ys.map fun s : Str => s.length).sum + ys.length * ("" : Str).length ≤ lim then some (D.p (.str (Txt.join "" ys))) else none
    | none => none) = _
  rw [strsOf_map]
  have e0 : ("" : Str).length = 0 := by decide +kernel
  dsimp only
  rw [e0, Nat.mul_zero, Nat.add_zero, if_pos (Nat.le_trans h (by decide))]
end
local macro_rules
  | `(tactic| infer_instance) => `(tactic| first
    | with_reducible exact nil_ok
    | with_reducible exact cst_ok
    | with_reducible exact nil_s
    | with_reducible exact raise_ok
    | with_reducible exact x_val
    | with_reducible exact x_valn
    | with_reducible exact x_vall
    | with_reducible exact get_p
    | with_reducible exact get_n
    | (with_reducible apply getl_); first | with_reducible assumption | infer_instance
    | (with_reducible apply var_ok); first | with_reducible assumption | rfl
    | with_reducible exact getL0
    | with_reducible exact sNone_ok
    | (with_reducible apply sSome_ok) <;> infer_instance
    | (with_reducible apply eSl_ok) <;> infer_instance
    | (with_reducible apply rng_ok) <;> infer_instance
    | (with_reducible apply iof_str) <;> infer_instance
    | (with_reducible apply iof_nw) <;> infer_instance
    | (with_reducible apply iof_lst) <;> infer_instance
    | (with_reducible apply iof_tup) <;> infer_instance
    | with_reducible exact allP0
    | (with_reducible apply getLc) <;> infer_instance
    | (with_reducible apply allPc) <;> infer_instance
    | (with_reducible apply cons_v) <;> infer_instance
    | (with_reducible apply seq_nx) <;> infer_instance
    | (with_reducible apply seq_rt) <;> infer_instance
    | (with_reducible apply seq_er) <;> infer_instance
    | (with_reducible apply set_v) <;> infer_instance
    | (with_reducible apply setM_ok') <;> infer_instance
    | (with_reducible apply ret_ok) <;> infer_instance
    | (with_reducible apply exp_ok) <;> infer_instance
    | (with_reducible apply exp_er) <;> infer_instance
    | (with_reducible apply if_tt) <;> infer_instance
    | (with_reducible apply if_ff) <;> infer_instance
    | (with_reducible apply bof_ok) <;> infer_instance
    | (with_reducible apply btru_ok) <;> infer_instance
    | (with_reducible apply bnot_t) <;> infer_instance
    | (with_reducible apply bnot_f) <;> infer_instance
    | (with_reducible apply band_tt) <;> infer_instance
    | (with_reducible apply band_f) <;> infer_instance
    | (with_reducible apply bor_t) <;> infer_instance
    | (with_reducible apply bor_ff) <;> infer_instance
    | (with_reducible apply and_tt) <;> infer_instance
    | (with_reducible apply and_ff) <;> infer_instance
    | (with_reducible apply ife_tt) <;> infer_instance
    | (with_reducible apply ife_ff) <;> infer_instance
    | (with_reducible apply not_t) <;> infer_instance
    | (with_reducible apply not_f) <;> infer_instance
    | (with_reducible apply neg_ok) <;> infer_instance
    | (with_reducible apply isi_ok) <;> infer_instance
    | (with_reducible apply chain_t) <;> infer_instance
    | (with_reducible apply chain_f) <;> infer_instance
    | (with_reducible apply bin_ok) <;> infer_instance
    | (with_reducible apply callB_ok) <;> infer_instance
    | (with_reducible apply mt_ok) <;> infer_instance
    | (with_reducible apply call_ok) <;> infer_instance
    | (with_reducible apply call_er) <;> infer_instance
    | (with_reducible apply word_er) <;> infer_instance
    | (with_reducible apply lst_okN) <;> infer_instance
    | (with_reducible apply tup_okN) <;> infer_instance
    | (with_reducible apply par_ok) <;> infer_instance
    | with_reducible assumption
    | ((with_reducible apply lt_t); omega)
    | ((with_reducible apply lt_f); omega)
    | ((with_reducible apply le_t); omega)
    | ((with_reducible apply le_f); omega)
    | ((with_reducible apply gt_t); omega)
    | ((with_reducible apply gt_f); omega)
    | ((with_reducible apply ge_t); omega)
    | ((with_reducible apply ge_f); omega)
    | ((with_reducible apply eq_t); omega)
    | ((with_reducible apply eq_f); omega)
    | ((with_reducible apply ne_t); omega)
    | ((with_reducible apply ne_f); omega)
    | ((with_reducible apply o_mod_i); omega)
    | (with_reducible apply mul_small_l) <;> omega
    | (with_reducible apply mul_small_r) <;> omega
    | with_reducible exact isi1 | with_reducible exact isi2 | with_reducible exact isi3 | with_reducible exact isi4 | with_reducible exact isi5 | with_reducible exact isi6
    | ((with_reducible apply Nat.le_of_ble_eq_true); rfl)
    | rfl)

section
variable {rb : List (Str × Int)} {st : List Int} {b n : Int} {l : Str} {M : Sto}
theorem lim_n {k : Nat} (h : k ≤ 1000) : k ≤ lim := Nat.le_trans h lim_big
theorem colS_len (h : MOk rb st) {x : Int} : (colS rb x).length ≤ 1 := by
  have : ∀ (r : List (Str × Int)) (x : Int), (∀ y ∈ r, y.1.length ≤ 1) → (colS r x).length ≤ 1 := by
    intro r
    induction r with
    | nil => intro x _; simp only [colS]; decide +kernel
    | cons a r ih =>
      intro x hr
      obtain ⟨c, m⟩ := a
      simp only [colS]
      split
      · exact hr (c, m) List.mem_cons_self
      · exact ih _ fun y hy => hr y (List.mem_cons_of_mem _ hy)
  refine this rb x fun y hy => ?_
  obtain ⟨c, hc, _⟩ := isLet_len (h.c y hy).1
  rw [hc]
  exact Nat.le_refl _
theorem sum_len {L : List Str} (h : ∀ s ∈ L, s.length ≤ 1) : (L.map (·.length)).sum ≤ L.length := by
  induction L with
  | nil => simp
  | cons a r ih =>
    have h1 := h a List.mem_cons_self
    have h2 := ih fun s hs => h s (List.mem_cons_of_mem _ hs)
    simp only [List.map_cons, List.sum_cons, List.length_cons]
    omega
/-- the colours at some standings -/
def colsS (rb : List (Str × Int)) (L : List Int) : Str := Txt.join "" (L.map fun s => colS rb (placeS rb s))
def standL (rb : List (Str × Int)) (st : List Int) (b : Int) (l : Str) (n : Int) : List Int := (List.range (cs l).length).map fun i => standS rb st b l n i
theorem cols_join (h : MOk rb st) {L : List Int} (hL : L.length ≤ 1000) : mJoin (.str "") [.lst (L.map fun s => P.str (colS rb (placeS rb s)))] = some (.p (.str (colsS rb L))) := by
  have := join_ok (L := L.map fun s => colS rb (placeS rb s)) (Nat.le_trans (sum_len fun s hs => by
    obtain ⟨x, _, rfl⟩ := List.mem_map.mp hs
    exact colS_len h) (by simpa using hL))
  rw [List.map_map] at this
  exact this
end
end Ev


set_option linter.all false
set_option maxRecDepth 100000
set_option maxHeartbeats 4000000
/-! Spec20: the law's own lengths, steps, colours. -/
namespace Ev
open PySem
local macro_rules
  | `(tactic| infer_instance) => `(tactic| first
    | with_reducible exact nil_ok
    | with_reducible exact cst_ok
    | with_reducible exact nil_s
    | with_reducible exact raise_ok
    | with_reducible exact x_val
    | with_reducible exact x_valn
    | with_reducible exact x_vall
    | with_reducible exact get_p
    | with_reducible exact get_n
    | (with_reducible apply getl_); first | with_reducible assumption | infer_instance
    | (with_reducible apply var_ok); first | with_reducible assumption | rfl
    | with_reducible exact getL0
    | with_reducible exact sNone_ok
    | (with_reducible apply sSome_ok) <;> infer_instance
    | (with_reducible apply eSl_ok) <;> infer_instance
    | (with_reducible apply rng_ok) <;> infer_instance
    | (with_reducible apply iof_str) <;> infer_instance
    | (with_reducible apply iof_nw) <;> infer_instance
    | (with_reducible apply iof_lst) <;> infer_instance
    | (with_reducible apply iof_tup) <;> infer_instance
    | with_reducible exact allP0
    | (with_reducible apply getLc) <;> infer_instance
    | (with_reducible apply allPc) <;> infer_instance
    | (with_reducible apply cons_v) <;> infer_instance
    | (with_reducible apply seq_nx) <;> infer_instance
    | (with_reducible apply seq_rt) <;> infer_instance
    | (with_reducible apply seq_er) <;> infer_instance
    | (with_reducible apply set_v) <;> infer_instance
    | (with_reducible apply setM_ok') <;> infer_instance
    | (with_reducible apply ret_ok) <;> infer_instance
    | (with_reducible apply exp_ok) <;> infer_instance
    | (with_reducible apply exp_er) <;> infer_instance
    | (with_reducible apply if_tt) <;> infer_instance
    | (with_reducible apply if_ff) <;> infer_instance
    | (with_reducible apply bof_ok) <;> infer_instance
    | (with_reducible apply btru_ok) <;> infer_instance
    | (with_reducible apply bnot_t) <;> infer_instance
    | (with_reducible apply bnot_f) <;> infer_instance
    | (with_reducible apply band_tt) <;> infer_instance
    | (with_reducible apply band_f) <;> infer_instance
    | (with_reducible apply bor_t) <;> infer_instance
    | (with_reducible apply bor_ff) <;> infer_instance
    | (with_reducible apply and_tt) <;> infer_instance
    | (with_reducible apply and_ff) <;> infer_instance
    | (with_reducible apply ife_tt) <;> infer_instance
    | (with_reducible apply ife_ff) <;> infer_instance
    | (with_reducible apply not_t) <;> infer_instance
    | (with_reducible apply not_f) <;> infer_instance
    | (with_reducible apply neg_ok) <;> infer_instance
    | (with_reducible apply isi_ok) <;> infer_instance
    | (with_reducible apply chain_t) <;> infer_instance
    | (with_reducible apply chain_f) <;> infer_instance
    | (with_reducible apply bin_ok) <;> infer_instance
    | (with_reducible apply callB_ok) <;> infer_instance
    | (with_reducible apply mt_ok) <;> infer_instance
    | (with_reducible apply call_ok) <;> infer_instance
    | (with_reducible apply call_er) <;> infer_instance
    | (with_reducible apply word_er) <;> infer_instance
    | (with_reducible apply lst_okN) <;> infer_instance
    | (with_reducible apply tup_okN) <;> infer_instance
    | (with_reducible apply par_ok) <;> infer_instance
    | with_reducible assumption
    | ((with_reducible apply lt_t); omega)
    | ((with_reducible apply lt_f); omega)
    | ((with_reducible apply le_t); omega)
    | ((with_reducible apply le_f); omega)
    | ((with_reducible apply gt_t); omega)
    | ((with_reducible apply gt_f); omega)
    | ((with_reducible apply ge_t); omega)
    | ((with_reducible apply ge_f); omega)
    | ((with_reducible apply eq_t); omega)
    | ((with_reducible apply eq_f); omega)
    | ((with_reducible apply ne_t); omega)
    | ((with_reducible apply ne_f); omega)
    | ((with_reducible apply o_mod_i); omega)
    | (with_reducible apply mul_small_l) <;> omega
    | (with_reducible apply mul_small_r) <;> omega
    | with_reducible exact isi1 | with_reducible exact isi2 | with_reducible exact isi3 | with_reducible exact isi4 | with_reducible exact isi5 | with_reducible exact isi6
    | ((with_reducible apply Nat.le_of_ble_eq_true); rfl)
    | rfl)

section
variable {rb : List (Str × Int)} {st : List Int} {b n : Int} {l : Str} {M : Sto}
theorem ix120 : mIndexS (.str "xyz") [.str (sg 120)] = some (.p (.int 0)) := by kernel_rfl
theorem ix121 : mIndexS (.str "xyz") [.str (sg 121)] = some (.p (.int 1)) := by kernel_rfl
theorem ix122 : mIndexS (.str "xyz") [.str (sg 122)] = some (.p (.int 2)) := by kernel_rfl
theorem xyz_ix (h : MOk rb st) {c : Nat} (hc : c ∈ sgs st) : ∃ k : Int, mIndexS (.str "xyz") [.str (sg c)] = some (.p (.int k)) ∧ oIx (.tup (st.map P.int)) (.int k) = some (.p (.int (stepS st c))) := by
  match st, h.s1, hc with
  | [a, b], _, hc =>
    have hc : c = 120 ∨ c = 121 := by simpa [sgs] using hc
    rcases hc with rfl | rfl
    · exact ⟨0, ix120, by simp [stepS]⟩
    · exact ⟨1, ix121, by simp [stepS]⟩
  | [a, b, d], _, hc =>
    have hc : c = 120 ∨ c = 121 ∨ c = 122 := by simpa [sgs] using hc
    rcases hc with rfl | rfl | rfl
    · exact ⟨0, ix120, by simp [stepS]⟩
    · exact ⟨1, ix121, by simp [stepS]⟩
    · refine ⟨2, ix122, ?_⟩
      have := atI_nat (l := [P.int a, P.int b, P.int d]) (k := 2) (by simp)
      show (L2.atI [P.int a, P.int b, P.int d] 2).map _ = _
      rw [show (2 : Int) = ((2 : Nat) : Int) from rfl, this]
      simp [stepS]
  | [], e, _ => simp at e
  | [a], e, _ => simp at e
  | a :: b :: d :: e :: r, e', _ => simp at e'
theorem take_LOk (hl : LOk st l) {i : Nat} : (cs (L2.cutS l none (some (i : Int)))).length ≤ lim ∧ ∀ c ∈ cs (L2.cutS l none (some (i : Int))), c ∈ sgs st := by
  have h40 := hl.le
  rw [cutS_take]
  exact ⟨by rw [List.length_take]; exact lim_n (by omega), fun c hc => hl.mem c (List.mem_of_mem_take hc)⟩
/-- where it stands before each sign -/
def lawL (rb : List (Str × Int)) (st : List Int) (b : Int) (l : Str) : List Int := (List.range (cs l).length).map fun i => (b + stepsS st ((cs l).take i)) % (2 * lenS rb)
theorem law_stand_eq (h : MOk rb st) : standL rb st b l n = lawL rb st ((b + n * stepsS st (cs l)) % (2 * lenS rb)) l := by
  unfold standL lawL standS
  refine List.map_congr_left fun i _ => ?_
  rw [Int.emod_add_emod, Int.add_assoc]
def bLC : EvS := (sSeq (sIf (bOf (eBin oLt (eVar 3) (eVar 5))) (sSeq (sRet (eVar 4))
    sNil) sNil)
    (sSeq (sSet 3 (eBin oSub (eVar 3) (eVar 5)))
    sNil))
theorem lcol_loop {m s x : Option D} {M : Sto} : ∀ (rb : List (Str × Int)) (left : Int) (y z : Option D),
    forL (.tu [(.nm 4), (.nm 5)]) bLC (rb.map stP) [m, s, x, some (.p (.int left)), y, z] M = .ok (.rt (.p (.str (colS rb left)))) M ∨
      (colS rb left = "" ∧ ∃ σ', forL (.tu [(.nm 4), (.nm 5)]) bLC (rb.map stP) [m, s, x, some (.p (.int left)), y, z] M = .ok (.nx σ') M)
  | [], left, y, z => .inr ⟨rfl, _, rfl⟩
  | (c, k) :: r, left, y, z => by
    have ht : tgA (.tu [(.nm 4), (.nm 5)]) (stP (c, k)) [m, s, x, some (.p (.int left)), y, z] = some [m, s, x, some (.p (.int left)), some (.p (.str c)), some (.p (.int k))] := by simp [stP]
    by_cases h2 : left < k
    · left
      rw [List.map_cons]
      refine Eq.trans (forL_rt ht (M2 := M) (d := .p (.str c)) ?_) ?_
      · unfold bLC
        infer_instance
      · simp [colS, h2]
    · have e : bLC [m, s, x, some (.p (.int left)), some (.p (.str c)), some (.p (.int k))] M = .ok (.nx [m, s, x, some (.p (.int (left - k))), some (.p (.str c)), some (.p (.int k))]) M := by
        unfold bLC
        infer_instance
      rw [List.map_cons, forL_nx ht e]
      have := lcol_loop (m := m) (s := s) (x := x) (M := M) r (left - k) (some (.p (.str c))) (some (.p (.int k)))
      simpa [colS, h2] using this
end
end Ev


set_option linter.all false
set_option maxRecDepth 100000
set_option maxHeartbeats 4000000
/-! Spec21: the law's begins; the period. -/
namespace Ev
open PySem
theorem consM_n {f : EvD} {r : EvA} {σ : Fr} {M M1 M2 : Sto} {ps : List P} {ds : List D} (h : f σ M = .ok (.nw ps) M1) (h2 : r σ (M1 ++ [.lst ps]) = .ok ds M2) : aConsM f r σ M = .ok (.loc M1.length :: ds) M2 := by
  unfold aConsM
  rw [h]
  show (r σ (M1 ++ [.lst ps])).bind _ = _
  rw [h2]
  rfl
theorem lv_loc {b : EvS} {σ : Fr} {M : Sto} {ps : List P} (h : b σ M = .ok (.rt (.loc M.length)) (M ++ [.lst ps])) : leave M.length (b σ M) = .ok (.nw ps) M := by
  rw [h]
  simp only [leave, Nat.lt_irrefl, if_false, st_get', List.take_left']
/-! ### the period -/
def perN (R s : Nat) : Nat := R / Nat.gcd R s
theorem per_dvd {R s k : Nat} (hR : 0 < R) : R ∣ k * s ↔ perN R s ∣ k := by
  have hg : 0 < Nat.gcd R s := Nat.gcd_pos_of_pos_left _ hR
  have e1 : R = Nat.gcd R s * perN R s := (Nat.mul_div_cancel' (Nat.gcd_dvd_left R s)).symm
  have e2 : s = Nat.gcd R s * (s / Nat.gcd R s) := (Nat.mul_div_cancel' (Nat.gcd_dvd_right R s)).symm
  have co : Nat.Coprime (perN R s) (s / Nat.gcd R s) := Nat.coprime_div_gcd_div_gcd hg
  have e3 : k * s = Nat.gcd R s * (k * (s / Nat.gcd R s)) := by
    conv => lhs; rw [e2]
    rw [Nat.mul_left_comm]
  rw [e3]
  conv => lhs; lhs; rw [e1]
  rw [Nat.mul_dvd_mul_iff_left hg]
  exact ⟨fun h => co.dvd_of_dvd_mul_right h, fun h => Nat.dvd_trans h (Nat.dvd_mul_right _ _)⟩
theorem per_pos {R s : Nat} (hR : 0 < R) : 0 < perN R s := Nat.div_pos (Nat.gcd_le_left _ hR) (Nat.gcd_pos_of_pos_left _ hR)
theorem per_le {R s : Nat} : perN R s ≤ R := Nat.div_le_self _ _
section
variable {rb : List (Str × Int)} {st : List Int} {b n : Int} {l : Str} {M : Sto}
/-- the period as a natural number -/
def perS (rb : List (Str × Int)) (st : List Int) (l : Str) : Nat := perN (2 * lenS rb).toNat (stepsS st (cs l) % (2 * lenS rb)).toNat
theorem period_eq (h : MOk rb st) : periodS rb st l = (perS rb st l : Int) := by
  unfold periodS perS perN
  have h1 := h.ring.1
  have e : 2 * lenS rb = ((2 * lenS rb).toNat : Int) := by omega
  rw [Int.natCast_ediv]
  rw [← e]
/-- a number of lines after which it stands where it stood -/
theorem per_iff (h : MOk rb st) {k : Nat} : 2 * lenS rb ∣ (k : Int) * stepsS st (cs l) ↔ perS rb st l ∣ k := by
  have h1 := h.ring.1
  have hs := (stepsS_bd h (cs l)).1
  have hm : 0 ≤ stepsS st (cs l) % (2 * lenS rb) := Int.emod_nonneg _ (by omega)
  unfold perS
  rw [← per_dvd (by omega)]
  have e : 2 * lenS rb = ((2 * lenS rb).toNat : Int) := by omega
  have e2 : stepsS st (cs l) % (2 * lenS rb) = ((stepsS st (cs l) % (2 * lenS rb)).toNat : Int) := by omega
  have e3 : (2 * lenS rb ∣ (k : Int) * stepsS st (cs l)) ↔ (2 * lenS rb ∣ (k : Int) * (stepsS st (cs l) % (2 * lenS rb))) := by
    rw [Int.dvd_iff_emod_eq_zero, Int.dvd_iff_emod_eq_zero, Int.mul_emod, Int.mul_emod (k : Int) (stepsS st (cs l) % (2 * lenS rb)), Int.emod_emod]
  rw [e3]
  generalize stepsS st (cs l) % (2 * lenS rb) = s at *
  generalize 2 * lenS rb = R at *
  conv => lhs; rw [e, e2]
  rw [← Int.natCast_mul, Int.natCast_dvd_natCast]
theorem back_iff (h : MOk rb st) (hb : 0 ≤ b) (hb2 : b ≤ 2 * lenS rb - 1) {k : Nat} : (b + (k : Int) * stepsS st (cs l)) % (2 * lenS rb) = b ↔ perS rb st l ∣ k := by
  have h1 := h.ring.1
  rw [← per_iff h]
  constructor
  · intro e
    have : (b + (k : Int) * stepsS st (cs l)) % (2 * lenS rb) = b % (2 * lenS rb) := by rw [e, Int.emod_eq_of_lt hb (by omega)]
    have := Int.emod_emod_of_dvd
    have h2 := Int.emod_eq_emod_iff_emod_sub_eq_zero.mp ‹(b + (k : Int) * stepsS st (cs l)) % (2 * lenS rb) = b % (2 * lenS rb)›
    rw [Int.dvd_iff_emod_eq_zero]
    rwa [show b + (k : Int) * stepsS st (cs l) - b = (k : Int) * stepsS st (cs l) by omega] at h2
  · rintro ⟨q, e⟩
    rw [e, Int.add_mul_emod_self_left, Int.emod_eq_of_lt hb (by omega)]
end
local macro_rules
  | `(tactic| infer_instance) => `(tactic| first
    | with_reducible exact nil_ok
    | with_reducible exact cst_ok
    | with_reducible exact nil_s
    | with_reducible exact raise_ok
    | with_reducible exact x_val
    | with_reducible exact x_valn
    | with_reducible exact x_vall
    | with_reducible exact get_p
    | with_reducible exact get_n
    | (with_reducible apply getl_); first | with_reducible assumption | infer_instance
    | (with_reducible apply var_ok); first | with_reducible assumption | rfl
    | with_reducible exact getL0
    | with_reducible exact sNone_ok
    | (with_reducible apply sSome_ok) <;> infer_instance
    | (with_reducible apply eSl_ok) <;> infer_instance
    | (with_reducible apply rng_ok) <;> infer_instance
    | (with_reducible apply iof_str) <;> infer_instance
    | (with_reducible apply iof_nw) <;> infer_instance
    | (with_reducible apply iof_lst) <;> infer_instance
    | (with_reducible apply iof_tup) <;> infer_instance
    | with_reducible exact allP0
    | (with_reducible apply getLc) <;> infer_instance
    | (with_reducible apply allPc) <;> infer_instance
    | (with_reducible apply cons_v) <;> infer_instance
    | (with_reducible apply seq_nx) <;> infer_instance
    | (with_reducible apply seq_rt) <;> infer_instance
    | (with_reducible apply seq_er) <;> infer_instance
    | (with_reducible apply set_v) <;> infer_instance
    | (with_reducible apply setM_ok') <;> infer_instance
    | (with_reducible apply ret_ok) <;> infer_instance
    | (with_reducible apply exp_ok) <;> infer_instance
    | (with_reducible apply exp_er) <;> infer_instance
    | (with_reducible apply if_tt) <;> infer_instance
    | (with_reducible apply if_ff) <;> infer_instance
    | (with_reducible apply bof_ok) <;> infer_instance
    | (with_reducible apply btru_ok) <;> infer_instance
    | (with_reducible apply bnot_t) <;> infer_instance
    | (with_reducible apply bnot_f) <;> infer_instance
    | (with_reducible apply band_tt) <;> infer_instance
    | (with_reducible apply band_f) <;> infer_instance
    | (with_reducible apply bor_t) <;> infer_instance
    | (with_reducible apply bor_ff) <;> infer_instance
    | (with_reducible apply and_tt) <;> infer_instance
    | (with_reducible apply and_ff) <;> infer_instance
    | (with_reducible apply ife_tt) <;> infer_instance
    | (with_reducible apply ife_ff) <;> infer_instance
    | (with_reducible apply not_t) <;> infer_instance
    | (with_reducible apply not_f) <;> infer_instance
    | (with_reducible apply neg_ok) <;> infer_instance
    | (with_reducible apply isi_ok) <;> infer_instance
    | (with_reducible apply chain_t) <;> infer_instance
    | (with_reducible apply chain_f) <;> infer_instance
    | (with_reducible apply bin_ok) <;> infer_instance
    | (with_reducible apply callB_ok) <;> infer_instance
    | (with_reducible apply mt_ok) <;> infer_instance
    | (with_reducible apply call_ok) <;> infer_instance
    | (with_reducible apply call_er) <;> infer_instance
    | (with_reducible apply word_er) <;> infer_instance
    | (with_reducible apply lst_okN) <;> infer_instance
    | (with_reducible apply tup_okN) <;> infer_instance
    | (with_reducible apply par_ok) <;> infer_instance
    | with_reducible assumption
    | ((with_reducible apply lt_t); omega)
    | ((with_reducible apply lt_f); omega)
    | ((with_reducible apply le_t); omega)
    | ((with_reducible apply le_f); omega)
    | ((with_reducible apply gt_t); omega)
    | ((with_reducible apply gt_f); omega)
    | ((with_reducible apply ge_t); omega)
    | ((with_reducible apply ge_f); omega)
    | ((with_reducible apply eq_t); omega)
    | ((with_reducible apply eq_f); omega)
    | ((with_reducible apply ne_t); omega)
    | ((with_reducible apply ne_f); omega)
    | ((with_reducible apply o_mod_i); omega)
    | (with_reducible apply mul_small_l) <;> omega
    | (with_reducible apply mul_small_r) <;> omega
    | with_reducible exact isi1 | with_reducible exact isi2 | with_reducible exact isi3 | with_reducible exact isi4 | with_reducible exact isi5 | with_reducible exact isi6
    | ((with_reducible apply Nat.le_of_ble_eq_true); rfl)
    | rfl)

section
variable {rb : List (Str × Int)} {st : List Int} {b n : Int} {l : Str} {M : Sto}
/-- the standing after k lines -/
def afterS (rb : List (Str × Int)) (st : List Int) (b : Int) (l : Str) (k : Nat) : Int := (b + (k : Int) * stepsS st (cs l)) % (2 * lenS rb)
def begL (rb : List (Str × Int)) (st : List Int) (b : Int) (l : Str) (n : Nat) : List P := (List.range n).map fun k => .int (afterS rb st b l k)
theorem begL_succ {k : Nat} : begL rb st b l (k + 1) = begL rb st b l k ++ [.int (afterS rb st b l k)] := by simp [begL, List.range_succ]
def bBG : EvS := (sSeq (sIf (bOf (eBin oEq (eVar 7) (eVar 1))) (sSeq (sRet (eVar 6))
    sNil) sNil)
    (sSeq (sExpr (eLm appK (eVar 6) (aCons (eVar 7) aNil)))
    (sSeq (sSet 7 (eBin oMod (eCB cInt (aCons (eBin oAdd (eVar 7) (eVar 5)) aNil)) (eVar 4)))
    sNil)))
theorem beg_loop (h : MOk rb st) (hb : 0 ≤ b) (hb2 : b ≤ 2 * lenS rb - 1) (hR : 2 * lenS rb ≤ 1000) : ∀ (k : Nat) (rest : List P) (t : Nat) (x : Option D), t + 1 + k = perS rb st l → k + 1 ≤ rest.length →
    forL (.nm 3) bBG rest [some (.p (machP rb st)), some (.p (.int b)), some (.p (.str l)), x, some (.p (.int (2 * lenS rb))), some (.p (.int (stepsS st (cs l)))), some (.loc M.length), some (.p (.int (afterS rb st b l (t + 1))))] (M ++ [.lst (begL rb st b l (t + 1))]) =
      .ok (.rt (.loc M.length)) (M ++ [.lst (begL rb st b l (perS rb st l))])
  | k, [], t, x, _, hl => by simp at hl
  | 0, p :: rest, t, x, hk, hl => by
    have e := (back_iff (l := l) h hb hb2 (k := t + 1)).mpr ⟨1, by omega⟩
    have e : afterS rb st b l (t + 1) = b := e
    have hk : t + 1 = perS rb st l := hk
    rw [hk] at e ⊢
    refine forL_rt x_nm ?_
    unfold bBG
    infer_instance
  | k + 1, p :: rest, t, x, hk, hl => by
    have e : ¬ afterS rb st b l (t + 1) = b := fun e => by
      have := (back_iff (l := l) h hb hb2 (k := t + 1)).mp e
      have := Nat.le_of_dvd (by omega) this
      omega
    have hp := h.ring.1
    have hle : perS rb st l ≤ 1000 := Nat.le_trans per_le (by omega)
    have h3 : (begL rb st b l (t + 1)).length < lim := by
      simp only [begL, List.length_map, List.length_range]
      exact Nat.lt_of_lt_of_le (by omega) lim_big
    have e2 : (afterS rb st b l (t + 1) + stepsS st (cs l)) % (2 * lenS rb) = afterS rb st b l (t + 1 + 1) := by
      unfold afterS
      rw [Int.emod_add_emod, Int.add_assoc]
      congr 2
      rw [show ((t + 1 + 1 : Nat) : Int) = ((t + 1 : Nat) : Int) + 1 by omega, Int.add_mul, Int.one_mul]
    have hs : bBG [some (.p (machP rb st)), some (.p (.int b)), some (.p (.str l)), some (.p p), some (.p (.int (2 * lenS rb))), some (.p (.int (stepsS st (cs l)))), some (.loc M.length), some (.p (.int (afterS rb st b l (t + 1))))] (M ++ [.lst (begL rb st b l (t + 1))]) =
        .ok (.nx [some (.p (machP rb st)), some (.p (.int b)), some (.p (.str l)), some (.p p), some (.p (.int (2 * lenS rb))), some (.p (.int (stepsS st (cs l)))), some (.loc M.length), some (.p (.int (afterS rb st b l (t + 1 + 1))))]) (M ++ [.lst (begL rb st b l (t + 1 + 1))]) := by
      unfold bBG
      rw [begL_succ (k := t + 1), ← e2]
      refine seq_nx (if_ff (by infer_instance) nil_s) (seq_nx (app_ok' rfl (by infer_instance) h3) ?_)
      infer_instance
    refine Eq.trans (forL_nx x_nm hs) ?_
    exact beg_loop h hb hb2 hR k rest (t + 1) _ (by omega) (by simp at hl ⊢; omega)
end
end Ev


set_option linter.all false
set_option maxRecDepth 100000
set_option maxHeartbeats 4000000
/-! Spec22: small machines. -/
namespace Ev
open PySem
theorem datLB_ints (L : List Int) (n : Nat) : datLB (L.map P.int) n = true := by
  induction L with
  | nil => rfl
  | cons a r ih => simp [datLB, datB, ih]
theorem oNe_ints (L : List Int) : oNe (.lst (L.map P.int)) (.lst (L.map P.int)) = some (.p (.bl false)) := oNe_refl (by simp [datB, datLB_ints])
theorem oNe_str (s : Str) : oNe (.str s) (.str s) = some (.p (.bl false)) := by simp
theorem oEq_str (s : Str) : oEq (.str s) (.str s) = some (.p (.bl true)) := by simp
theorem p27 : oPow (.int 10) (.int 27) = some (.p (.int (10 ^ 27))) := by kernel_rfl
local macro_rules
  | `(tactic| infer_instance) => `(tactic| first
    | with_reducible exact nil_ok
    | with_reducible exact cst_ok
    | with_reducible exact nil_s
    | with_reducible exact raise_ok
    | with_reducible exact x_val
    | with_reducible exact x_valn
    | with_reducible exact x_vall
    | with_reducible exact get_p
    | with_reducible exact get_n
    | (with_reducible apply getl_); first | with_reducible assumption | infer_instance
    | (with_reducible apply var_ok); first | with_reducible assumption | rfl
    | with_reducible exact getL0
    | with_reducible exact sNone_ok
    | (with_reducible apply sSome_ok) <;> infer_instance
    | (with_reducible apply eSl_ok) <;> infer_instance
    | (with_reducible apply rng_ok) <;> infer_instance
    | (with_reducible apply iof_str) <;> infer_instance
    | (with_reducible apply iof_nw) <;> infer_instance
    | (with_reducible apply iof_lst) <;> infer_instance
    | (with_reducible apply iof_tup) <;> infer_instance
    | with_reducible exact allP0
    | (with_reducible apply getLc) <;> infer_instance
    | (with_reducible apply allPc) <;> infer_instance
    | (with_reducible apply cons_v) <;> infer_instance
    | (with_reducible apply seq_nx) <;> infer_instance
    | (with_reducible apply seq_rt) <;> infer_instance
    | (with_reducible apply seq_er) <;> infer_instance
    | (with_reducible apply set_v) <;> infer_instance
    | (with_reducible apply setM_ok') <;> infer_instance
    | (with_reducible apply ret_ok) <;> infer_instance
    | (with_reducible apply exp_ok) <;> infer_instance
    | (with_reducible apply exp_er) <;> infer_instance
    | (with_reducible apply if_tt) <;> infer_instance
    | (with_reducible apply if_ff) <;> infer_instance
    | (with_reducible apply bof_ok) <;> infer_instance
    | (with_reducible apply btru_ok) <;> infer_instance
    | (with_reducible apply bnot_t) <;> infer_instance
    | (with_reducible apply bnot_f) <;> infer_instance
    | (with_reducible apply band_tt) <;> infer_instance
    | (with_reducible apply band_f) <;> infer_instance
    | (with_reducible apply bor_t) <;> infer_instance
    | (with_reducible apply bor_ff) <;> infer_instance
    | (with_reducible apply and_tt) <;> infer_instance
    | (with_reducible apply and_ff) <;> infer_instance
    | (with_reducible apply ife_tt) <;> infer_instance
    | (with_reducible apply ife_ff) <;> infer_instance
    | (with_reducible apply not_t) <;> infer_instance
    | (with_reducible apply not_f) <;> infer_instance
    | (with_reducible apply neg_ok) <;> infer_instance
    | (with_reducible apply isi_ok) <;> infer_instance
    | (with_reducible apply chain_t) <;> infer_instance
    | (with_reducible apply chain_f) <;> infer_instance
    | (with_reducible apply bin_ok) <;> infer_instance
    | (with_reducible apply callB_ok) <;> infer_instance
    | (with_reducible apply mt_ok) <;> infer_instance
    | (with_reducible apply call_ok) <;> infer_instance
    | (with_reducible apply call_er) <;> infer_instance
    | (with_reducible apply word_er) <;> infer_instance
    | (with_reducible apply lst_okN) <;> infer_instance
    | (with_reducible apply tup_okN) <;> infer_instance
    | (with_reducible apply par_ok) <;> infer_instance
    | with_reducible assumption
    | ((with_reducible apply lt_t); omega)
    | ((with_reducible apply lt_f); omega)
    | ((with_reducible apply le_t); omega)
    | ((with_reducible apply le_f); omega)
    | ((with_reducible apply gt_t); omega)
    | ((with_reducible apply gt_f); omega)
    | ((with_reducible apply ge_t); omega)
    | ((with_reducible apply ge_f); omega)
    | ((with_reducible apply eq_t); omega)
    | ((with_reducible apply eq_f); omega)
    | ((with_reducible apply ne_t); omega)
    | ((with_reducible apply ne_f); omega)
    | ((with_reducible apply o_mod_i); omega)
    | (with_reducible apply mul_small_l) <;> omega
    | (with_reducible apply mul_small_r) <;> omega
    | with_reducible exact isi1 | with_reducible exact isi2 | with_reducible exact isi3 | with_reducible exact isi4 | with_reducible exact isi5 | with_reducible exact isi6
    | ((with_reducible apply Nat.le_of_ble_eq_true); rfl)
    | rfl)

section
variable {rb : List (Str × Int)} {st : List Int} {b n : Int} {l : Str} {M : Sto}
end
end Ev


set_option linter.all false
set_option maxRecDepth 100000
set_option maxHeartbeats 4000000
/-! Spec23: great machines. -/
namespace Ev
open PySem
theorem p30 : oPow (.int 10) (.int 30) = some (.p (.int GRT)) := by kernel_rfl
theorem p6 : oPow (.int 10) (.int 6) = some (.p (.int 1000000)) := by kernel_rfl
theorem grt_pos : (0 : Int) < GRT := by decide +kernel
theorem grt_big : (1000000 : Int) ≤ GRT := by decide +kernel
theorem grt_1000 : GRT.natAbs < 2 ^ 1000 := by decide +kernel
theorem mil_1000 : (1000000 : Int).natAbs < 2 ^ 1000 := by decide +kernel
theorem le40_1000 {k : Nat} (h : k ≤ 1000) : ((k : Int)).natAbs < 2 ^ 1000 := by
  have : (1000 : Nat) < 2 ^ 1000 := by decide +kernel
  omega
theorem fdiv7 {a b : Int} (h1 : 1 ≤ b) (h2 : b ≤ 7) : oFdiv (.int a) (.int b) = some (.p (.int (a / b))) := oFdiv_ok (by omega) (by
  have : (1000 : Nat) < 2 ^ 1000 := by decide +kernel
  omega)
theorem lv_pS {b : EvS} {σ : Fr} {M M' : Sto} {p : P} (h : b σ M = .ok (.rt (.p p)) M') (hl : M'.length = M.length) : leave M.length (b σ M) = .ok (.p p) M' := by
  rw [h, x_lv_p, ← hl, List.take_length]
local macro_rules
  | `(tactic| infer_instance) => `(tactic| first
    | with_reducible exact nil_ok
    | with_reducible exact cst_ok
    | with_reducible exact nil_s
    | with_reducible exact raise_ok
    | with_reducible exact x_val
    | with_reducible exact x_valn
    | with_reducible exact x_vall
    | with_reducible exact get_p
    | with_reducible exact get_n
    | (with_reducible apply getl_); first | with_reducible assumption | infer_instance
    | (with_reducible apply var_ok); first | with_reducible assumption | rfl
    | with_reducible exact getL0
    | with_reducible exact sNone_ok
    | (with_reducible apply sSome_ok) <;> infer_instance
    | (with_reducible apply eSl_ok) <;> infer_instance
    | (with_reducible apply rng_ok) <;> infer_instance
    | (with_reducible apply iof_str) <;> infer_instance
    | (with_reducible apply iof_nw) <;> infer_instance
    | (with_reducible apply iof_lst) <;> infer_instance
    | (with_reducible apply iof_tup) <;> infer_instance
    | with_reducible exact allP0
    | (with_reducible apply getLc) <;> infer_instance
    | (with_reducible apply allPc) <;> infer_instance
    | (with_reducible apply cons_v) <;> infer_instance
    | (with_reducible apply seq_nx) <;> infer_instance
    | (with_reducible apply seq_rt) <;> infer_instance
    | (with_reducible apply seq_er) <;> infer_instance
    | (with_reducible apply set_v) <;> infer_instance
    | (with_reducible apply setM_ok') <;> infer_instance
    | (with_reducible apply ret_ok) <;> infer_instance
    | (with_reducible apply exp_ok) <;> infer_instance
    | (with_reducible apply exp_er) <;> infer_instance
    | (with_reducible apply if_tt) <;> infer_instance
    | (with_reducible apply if_ff) <;> infer_instance
    | (with_reducible apply bof_ok) <;> infer_instance
    | (with_reducible apply btru_ok) <;> infer_instance
    | (with_reducible apply bnot_t) <;> infer_instance
    | (with_reducible apply bnot_f) <;> infer_instance
    | (with_reducible apply band_tt) <;> infer_instance
    | (with_reducible apply band_f) <;> infer_instance
    | (with_reducible apply bor_t) <;> infer_instance
    | (with_reducible apply bor_ff) <;> infer_instance
    | (with_reducible apply and_tt) <;> infer_instance
    | (with_reducible apply and_ff) <;> infer_instance
    | (with_reducible apply ife_tt) <;> infer_instance
    | (with_reducible apply ife_ff) <;> infer_instance
    | (with_reducible apply not_t) <;> infer_instance
    | (with_reducible apply not_f) <;> infer_instance
    | (with_reducible apply neg_ok) <;> infer_instance
    | (with_reducible apply isi_ok) <;> infer_instance
    | (with_reducible apply chain_t) <;> infer_instance
    | (with_reducible apply chain_f) <;> infer_instance
    | (with_reducible apply bin_ok) <;> infer_instance
    | (with_reducible apply callB_ok) <;> infer_instance
    | (with_reducible apply mt_ok) <;> infer_instance
    | (with_reducible apply call_ok) <;> infer_instance
    | (with_reducible apply call_er) <;> infer_instance
    | (with_reducible apply word_er) <;> infer_instance
    | (with_reducible apply lst_okN) <;> infer_instance
    | (with_reducible apply tup_okN) <;> infer_instance
    | (with_reducible apply par_ok) <;> infer_instance
    | with_reducible assumption
    | ((with_reducible apply lt_t); omega)
    | ((with_reducible apply lt_f); omega)
    | ((with_reducible apply le_t); omega)
    | ((with_reducible apply le_f); omega)
    | ((with_reducible apply gt_t); omega)
    | ((with_reducible apply gt_f); omega)
    | ((with_reducible apply ge_t); omega)
    | ((with_reducible apply ge_f); omega)
    | ((with_reducible apply eq_t); omega)
    | ((with_reducible apply eq_f); omega)
    | ((with_reducible apply ne_t); omega)
    | ((with_reducible apply ne_f); omega)
    | ((with_reducible apply o_mod_i); omega)
    | (with_reducible apply mul_small_l) <;> omega
    | (with_reducible apply mul_small_r) <;> omega
    | with_reducible exact isi1 | with_reducible exact isi2 | with_reducible exact isi3 | with_reducible exact isi4 | with_reducible exact isi5 | with_reducible exact isi6
    | ((with_reducible apply Nat.le_of_ble_eq_true); rfl)
    | rfl)

section
variable {rb : List (Str × Int)} {st : List Int} {b n : Int} {l : Str} {M : Sto}
def bPa : EvS := (sSeq (sIf (bAnd (bOf (eBin oEq (eBin oMod (eVar 5) (eVar 6)) (eC (.int 0)))) (bOf (eBin oEq (eBin oMod (eCB cInt (aCons (eBin oMul (eBin oFdiv (eVar 5) (eVar 6)) (eVar 8)) aNil)) (eVar 7)) (eC (.int 0))))) (sSeq (sRet (eC (.bl false)))
    sNil) sNil)
    sNil)
theorem part_step (h : MOk rb st) (hl : LOk st l) {k : Option D} {x1 x2 x3 x4 x9 x10 : Option D} {pt : Int} (h1 : 2 ≤ pt) (h2 : pt ≤ 7) :
    bPa [k, x1, x2, x3, x4, some (.p (.int (perS rb st l : Int))), some (.p (.int pt)), some (.p (.int (2 * lenS rb))), some (.p (.int (stepsS st (cs l)))), x9, x10] M =
      .ok (.nx [k, x1, x2, x3, x4, some (.p (.int (perS rb st l : Int))), some (.p (.int pt)), some (.p (.int (2 * lenS rb))), some (.p (.int (stepsS st (cs l)))), x9, x10]) M := by
  have h40 := hl.le
  have hp := h.ring.1
  have hS := stepsS_bd h (cs l)
  have hpos : 0 < perS rb st l := per_pos (by omega)
  have q0 := fdiv7 (a := (perS rb st l : Int)) (b := pt) (by omega) h2
  have q1 : oMod (.int (perS rb st l : Int)) (.int pt) = some (.p (.int ((perS rb st l : Int) % pt))) := o_mod_i (by omega)
  have q2 : oMul (.int ((perS rb st l : Int) / pt)) (.int (stepsS st (cs l))) = some (.p (.int ((perS rb st l : Int) / pt * stepsS st (cs l)))) := mul_small_r (by omega) (by omega)
  have q3 : oMod (.int ((perS rb st l : Int) / pt * stepsS st (cs l))) (.int (2 * lenS rb)) = some (.p (.int (((perS rb st l : Int) / pt * stepsS st (cs l)) % (2 * lenS rb)))) := o_mod_i hp
  by_cases hm : (perS rb st l : Int) % pt = 0
  · have hn : ¬ ((perS rb st l : Int) / pt * stepsS st (cs l)) % (2 * lenS rb) = 0 := fun z => by
      have hq : 0 ≤ (perS rb st l : Int) / pt := Int.ediv_nonneg (by omega) (by omega)
      have e : (perS rb st l : Int) / pt = (((perS rb st l : Int) / pt).toNat : Int) := by omega
      have hlt : (perS rb st l : Int) / pt < perS rb st l := Int.ediv_lt_of_lt_mul (by omega) (by
        have : (perS rb st l : Int) * 2 ≤ perS rb st l * pt := Int.mul_le_mul_of_nonneg_left h1 (by omega)
        omega)
      have hq1 : 0 < (perS rb st l : Int) / pt := by
        have := Int.mul_ediv_add_emod (perS rb st l : Int) pt
        rw [hm] at this
        rcases Int.lt_or_eq_of_le hq with z | z
        · exact z
        · rw [← z] at this; omega
      rw [e] at z
      have := (per_iff (l := l) h).mp (Int.dvd_of_emod_eq_zero z)
      have := Nat.le_of_dvd (by omega) this
      omega
    have q4 := eq_t hm
    have q5 := eq_f hn
    clear hp hS
    unfold bPa
    refine seq_nx (M1 := M) (if_ff (M1 := M) (band_tt (M1 := M) (by infer_instance) (by infer_instance)) nil_s) nil_s
  · have q4 := eq_f hm
    clear hp hS
    unfold bPa
    exact seq_nx (M1 := M) (if_ff (M1 := M) (band_f (M1 := M) (by infer_instance)) nil_s) nil_s
end
end Ev


set_option linter.all false
set_option maxRecDepth 100000
set_option maxHeartbeats 4000000
/-! Spec24: what is refused. -/
namespace Ev
open PySem
def goodP : P → Bool
  | .non => true | .bl _ => true | .int _ => true | .str _ => true | .tup _ => true | .lst _ => true | _ => false
def intOk (v : P) (lo hi : Int) : Bool := match v with
  | .int i => decide (lo ≤ i) && decide (i ≤ hi)
  | _ => false
local macro_rules
  | `(tactic| infer_instance) => `(tactic| first
    | with_reducible exact nil_ok
    | with_reducible exact cst_ok
    | with_reducible exact nil_s
    | with_reducible exact raise_ok
    | with_reducible exact x_val
    | with_reducible exact x_valn
    | with_reducible exact x_vall
    | with_reducible exact get_p
    | with_reducible exact get_n
    | (with_reducible apply getl_); first | with_reducible assumption | infer_instance
    | (with_reducible apply var_ok); first | with_reducible assumption | rfl
    | with_reducible exact getL0
    | with_reducible exact sNone_ok
    | (with_reducible apply sSome_ok) <;> infer_instance
    | (with_reducible apply eSl_ok) <;> infer_instance
    | (with_reducible apply rng_ok) <;> infer_instance
    | (with_reducible apply iof_str) <;> infer_instance
    | (with_reducible apply iof_nw) <;> infer_instance
    | (with_reducible apply iof_lst) <;> infer_instance
    | (with_reducible apply iof_tup) <;> infer_instance
    | with_reducible exact allP0
    | (with_reducible apply getLc) <;> infer_instance
    | (with_reducible apply allPc) <;> infer_instance
    | (with_reducible apply cons_v) <;> infer_instance
    | (with_reducible apply seq_nx) <;> infer_instance
    | (with_reducible apply seq_rt) <;> infer_instance
    | (with_reducible apply seq_er) <;> infer_instance
    | (with_reducible apply set_v) <;> infer_instance
    | (with_reducible apply setM_ok') <;> infer_instance
    | (with_reducible apply ret_ok) <;> infer_instance
    | (with_reducible apply exp_ok) <;> infer_instance
    | (with_reducible apply exp_er) <;> infer_instance
    | (with_reducible apply if_tt) <;> infer_instance
    | (with_reducible apply if_ff) <;> infer_instance
    | (with_reducible apply bof_ok) <;> infer_instance
    | (with_reducible apply btru_ok) <;> infer_instance
    | (with_reducible apply bnot_t) <;> infer_instance
    | (with_reducible apply bnot_f) <;> infer_instance
    | (with_reducible apply band_tt) <;> infer_instance
    | (with_reducible apply band_f) <;> infer_instance
    | (with_reducible apply bor_t) <;> infer_instance
    | (with_reducible apply bor_ff) <;> infer_instance
    | (with_reducible apply and_tt) <;> infer_instance
    | (with_reducible apply and_ff) <;> infer_instance
    | (with_reducible apply ife_tt) <;> infer_instance
    | (with_reducible apply ife_ff) <;> infer_instance
    | (with_reducible apply not_t) <;> infer_instance
    | (with_reducible apply not_f) <;> infer_instance
    | (with_reducible apply neg_ok) <;> infer_instance
    | (with_reducible apply isi_ok) <;> infer_instance
    | (with_reducible apply chain_t) <;> infer_instance
    | (with_reducible apply chain_f) <;> infer_instance
    | (with_reducible apply bin_ok) <;> infer_instance
    | (with_reducible apply callB_ok) <;> infer_instance
    | (with_reducible apply mt_ok) <;> infer_instance
    | (with_reducible apply call_ok) <;> infer_instance
    | (with_reducible apply call_er) <;> infer_instance
    | (with_reducible apply word_er) <;> infer_instance
    | (with_reducible apply lst_okN) <;> infer_instance
    | (with_reducible apply tup_okN) <;> infer_instance
    | (with_reducible apply par_ok) <;> infer_instance
    | with_reducible assumption
    | ((with_reducible apply lt_t); omega)
    | ((with_reducible apply lt_f); omega)
    | ((with_reducible apply le_t); omega)
    | ((with_reducible apply le_f); omega)
    | ((with_reducible apply gt_t); omega)
    | ((with_reducible apply gt_f); omega)
    | ((with_reducible apply ge_t); omega)
    | ((with_reducible apply ge_f); omega)
    | ((with_reducible apply eq_t); omega)
    | ((with_reducible apply eq_f); omega)
    | ((with_reducible apply ne_t); omega)
    | ((with_reducible apply ne_f); omega)
    | ((with_reducible apply o_mod_i); omega)
    | (with_reducible apply mul_small_l) <;> omega
    | (with_reducible apply mul_small_r) <;> omega
    | with_reducible exact isi1 | with_reducible exact isi2 | with_reducible exact isi3 | with_reducible exact isi4 | with_reducible exact isi5 | with_reducible exact isi6
    | ((with_reducible apply Nat.le_of_ble_eq_true); rfl)
    | rfl)

section
variable {rb : List (Str × Int)} {st : List Int} {b n : Int} {l : Str} {M : Sto}
theorem is_integer_any {v : P} {lo hi : Int} (h : goodP v = true) : F_is_integer [.p v, .p (.int lo), .p (.int hi)] M = .ok (.p (.bl (intOk v lo hi))) M := by
  cases v with
  | int i => exact sp_is_integer
  | non => 
    have q1 : isiB "NoneType" "int" = false := by decide
    have q2 : P.ty .non = some "NoneType" := rfl
    have q3 : P.tru (.bl false) = some false := rfl
    unfold F_is_integer; rw [fnB3]; refine lv_p ?_; unfold b_is_integer; infer_instance
  | bl k =>
    have q1 : isiB "bool" "int" = true := by decide
    have q4 : isiB "bool" "bool" = true := by decide
    have q2 : P.ty (.bl k) = some "bool" := rfl
    have q3 : P.tru (.bl false) = some false := rfl
    have q5 : P.tru (.bl true) = some true := rfl
    unfold F_is_integer; rw [fnB3]; refine lv_p ?_; unfold b_is_integer; infer_instance
  | str k =>
    have q1 : isiB "str" "int" = false := by decide
    have q2 : P.ty (.str k) = some "str" := rfl
    have q3 : P.tru (.bl false) = some false := rfl
    unfold F_is_integer; rw [fnB3]; refine lv_p ?_; unfold b_is_integer; infer_instance
  | tup k =>
    have q1 : isiB "tuple" "int" = false := by decide
    have q2 : P.ty (.tup k) = some "tuple" := rfl
    have q3 : P.tru (.bl false) = some false := rfl
    unfold F_is_integer; rw [fnB3]; refine lv_p ?_; unfold b_is_integer; infer_instance
  | lst k =>
    have q1 : isiB "list" "int" = false := by decide
    have q2 : P.ty (.lst k) = some "list" := rfl
    have q3 : P.tru (.bl false) = some false := rfl
    unfold F_is_integer; rw [fnB3]; refine lv_p ?_; unfold b_is_integer; infer_instance
  | fn _ => cases h
  | scr _ => cases h
  | adr _ => cases h
/-! lines -/
/-- what is no line -/
def badLine (v : P) : Prop := v = .non ∨ v = .str "" ∨ v = .str (sg 119) ∨ v = .str (strRepN "x" 41) ∨ v = .tup [.str "x"]
/-! the functions -/
end
end Ev


set_option linter.all false
set_option maxRecDepth 100000
set_option maxHeartbeats 4000000
/-! Spec26: what is drawn: machines, lines. -/
namespace Ev
open PySem
theorem SpAt.push {M : Sto} {k : Nat} {x : MO} (h : SpAt M k) : SpAt (M ++ [x]) k := by
  obtain ⟨a, b, h0, h1⟩ := h
  exact ⟨a, b, h0, by rw [List.getElem?_append_left (List.getElem?_eq_some_iff.mp h1).1]; exact h1⟩
theorem Spw.pop {M M' : Sto} {k : Nat} {x : MO} (h : SpAt M k) (w : Spw k (M ++ [x]) M') : ∃ M2, M' = M2 ++ [x] ∧ Spw k M M2 := by
  rcases w with rfl | ⟨a, b, h0, rfl⟩
  · exact ⟨M, rfl, .inl rfl⟩
  · obtain ⟨_, _, _, h1⟩ := h
    have hk := (List.getElem?_eq_some_iff.mp h1).1
    exact ⟨M.set k (.lst [.int a, .int b]), by rw [List.set_append_left _ _ hk], .inr ⟨a, b, h0, rfl⟩⟩
/-- a display by a loop whose element draws -/
theorem lcL_eff {k x : Nat} {el : EvD} {σ : Fr} (G : P → Prop) : ∀ (ps acc : List P) (M : Sto), SpAt M k → acc.length + ps.length ≤ lim →
    (∀ p ∈ ps, ∀ M : Sto, SpAt M k → ∃ d q M2, el (σ.set x (some (.p p))) M = .ok d M2 ∧ d.val = .p q ∧ Spw k M M2 ∧ G q) →
    ∃ qs M2, lcL (.nm x) true bYes el M.length σ ps (M ++ [.lst acc]) = .ok (.nw (acc ++ qs)) M2 ∧ Spw k M M2 ∧ qs.length = ps.length ∧ ∀ q ∈ qs, G q
  | [], acc, M, hs, hl, h => ⟨[], M, by
      unfold lcL
      rw [List.getElem?_append_right (Nat.le_refl _), Nat.sub_self]
      simp, .inl rfl, rfl, fun q hq => by cases hq⟩
  | p :: ps, acc, M, hs, hl, h => by
    obtain ⟨d, q, M2, e1, e2, w, g⟩ := h p List.mem_cons_self (M ++ [.lst acc]) hs.push
    obtain ⟨M3, rfl, w3⟩ := w.pop hs
    have hlen := w3.len
    have hl' : acc.length + (ps.length + 1) ≤ lim := hl
    obtain ⟨qs, M4, e3, w4, n4, g4⟩ := lcL_eff G ps (acc ++ [q]) M3 (w3.at hs) (by simp; omega) fun p hp => h p (List.mem_cons_of_mem _ hp)
    refine ⟨q :: qs, M4, ?_, w3.trans w4, by simp [n4], fun z hz => ?_⟩
    · have ea : addL M.length q (M3 ++ [.lst acc]) = .ok () (M3 ++ [.lst (acc ++ [q])]) := by
        unfold addL
        rw [← hlen, List.getElem?_append_right (Nat.le_refl _), Nat.sub_self]
        have : acc.length < lim := by omega
        simp [this]
      unfold lcL
      rw [x_nm]
      show (match el (σ.set x (some (.p p))) (M ++ [.lst acc]) with
        | .ok d M2 => (match d.val with
          | .p q => (match addL M.length q M2 with
            | .ok _ M3 => lcL (.nm x) true bYes el M.length σ ps M3
            | _ => Out.no)
          | _ => .no)
        | _ => .no) = _
      rw [e1]
      dsimp only
      rw [e2]
      dsimp only
      rw [ea]
      dsimp only
      rw [← hlen, e3]
      simp
    · rcases List.mem_cons.mp hz with rfl | hz
      · exact g
      · exact g4 z hz
theorem lc_eff {k x : Nat} {fi : EvI} {el : EvD} {σ : Fr} {M M1 : Sto} {ps : List P} (G : P → Prop) (hi : fi σ M = .ok ps M1) (hs : SpAt M1 k) (hl : ps.length ≤ lim)
    (h : ∀ p ∈ ps, ∀ M : Sto, SpAt M k → ∃ d q M2, el ((wipeF σ [x]).set x (some (.p p))) M = .ok d M2 ∧ d.val = .p q ∧ Spw k M M2 ∧ G q) :
    ∃ qs M2, eLc (.nm x) [x] fi bYes el σ M = .ok (.nw qs) M2 ∧ Spw k M1 M2 ∧ qs.length = ps.length ∧ ∀ q ∈ qs, G q := by
  obtain ⟨qs, M2, e, w, n, g⟩ := lcL_eff (el := el) (σ := wipeF σ [x]) (x := x) G ps [] M1 hs (by simpa using hl) h
  refine ⟨qs, M2, ?_, w, n, g⟩
  unfold eLc
  rw [hi]
  have hv : ((tgS (.nm x)).all fun i => [x].contains i) = true := by simp [tgS]
  show lcL (.nm x) ((tgS (.nm x)).all fun i => [x].contains i) bYes el M1.length (wipeF σ [x]) ps (M1 ++ [.lst []]) = _
  rw [hv]
  exact e
local macro_rules
  | `(tactic| infer_instance) => `(tactic| first
    | with_reducible exact nil_ok
    | with_reducible exact cst_ok
    | with_reducible exact nil_s
    | with_reducible exact raise_ok
    | with_reducible exact x_val
    | with_reducible exact x_valn
    | with_reducible exact x_vall
    | with_reducible exact get_p
    | with_reducible exact get_n
    | (with_reducible apply getl_); first | with_reducible assumption | infer_instance
    | (with_reducible apply var_ok); first | with_reducible assumption | rfl
    | with_reducible exact getL0
    | with_reducible exact sNone_ok
    | (with_reducible apply sSome_ok) <;> infer_instance
    | (with_reducible apply eSl_ok) <;> infer_instance
    | (with_reducible apply rng_ok) <;> infer_instance
    | (with_reducible apply iof_str) <;> infer_instance
    | (with_reducible apply iof_nw) <;> infer_instance
    | (with_reducible apply iof_lst) <;> infer_instance
    | (with_reducible apply iof_tup) <;> infer_instance
    | with_reducible exact allP0
    | (with_reducible apply getLc) <;> infer_instance
    | (with_reducible apply allPc) <;> infer_instance
    | (with_reducible apply cons_v) <;> infer_instance
    | (with_reducible apply seq_nx) <;> infer_instance
    | (with_reducible apply seq_rt) <;> infer_instance
    | (with_reducible apply seq_er) <;> infer_instance
    | (with_reducible apply set_v) <;> infer_instance
    | (with_reducible apply setM_ok') <;> infer_instance
    | (with_reducible apply ret_ok) <;> infer_instance
    | (with_reducible apply exp_ok) <;> infer_instance
    | (with_reducible apply exp_er) <;> infer_instance
    | (with_reducible apply if_tt) <;> infer_instance
    | (with_reducible apply if_ff) <;> infer_instance
    | (with_reducible apply bof_ok) <;> infer_instance
    | (with_reducible apply btru_ok) <;> infer_instance
    | (with_reducible apply bnot_t) <;> infer_instance
    | (with_reducible apply bnot_f) <;> infer_instance
    | (with_reducible apply band_tt) <;> infer_instance
    | (with_reducible apply band_f) <;> infer_instance
    | (with_reducible apply bor_t) <;> infer_instance
    | (with_reducible apply bor_ff) <;> infer_instance
    | (with_reducible apply and_tt) <;> infer_instance
    | (with_reducible apply and_ff) <;> infer_instance
    | (with_reducible apply ife_tt) <;> infer_instance
    | (with_reducible apply ife_ff) <;> infer_instance
    | (with_reducible apply not_t) <;> infer_instance
    | (with_reducible apply not_f) <;> infer_instance
    | (with_reducible apply neg_ok) <;> infer_instance
    | (with_reducible apply isi_ok) <;> infer_instance
    | (with_reducible apply chain_t) <;> infer_instance
    | (with_reducible apply chain_f) <;> infer_instance
    | (with_reducible apply bin_ok) <;> infer_instance
    | (with_reducible apply callB_ok) <;> infer_instance
    | (with_reducible apply mt_ok) <;> infer_instance
    | (with_reducible apply call_ok) <;> infer_instance
    | (with_reducible apply call_er) <;> infer_instance
    | (with_reducible apply word_er) <;> infer_instance
    | (with_reducible apply lst_okN) <;> infer_instance
    | (with_reducible apply tup_okN) <;> infer_instance
    | (with_reducible apply par_ok) <;> infer_instance
    | with_reducible assumption
    | ((with_reducible apply lt_t); omega)
    | ((with_reducible apply lt_f); omega)
    | ((with_reducible apply le_t); omega)
    | ((with_reducible apply le_f); omega)
    | ((with_reducible apply gt_t); omega)
    | ((with_reducible apply gt_f); omega)
    | ((with_reducible apply ge_t); omega)
    | ((with_reducible apply ge_f); omega)
    | ((with_reducible apply eq_t); omega)
    | ((with_reducible apply eq_f); omega)
    | ((with_reducible apply ne_t); omega)
    | ((with_reducible apply ne_f); omega)
    | ((with_reducible apply o_mod_i); omega)
    | (with_reducible apply mul_small_l) <;> omega
    | (with_reducible apply mul_small_r) <;> omega
    | with_reducible exact isi1 | with_reducible exact isi2 | with_reducible exact isi3 | with_reducible exact isi4 | with_reducible exact isi5 | with_reducible exact isi6
    | ((with_reducible apply Nat.le_of_ble_eq_true); rfl)
    | rfl)

/-- a sign of a text -/
theorem sp_pickS {M : Sto} {n : Nat} {s : Str} (h : SpAt M n) (h0 : cs s ≠ []) (hl : (cs s).length ≤ 1000) : ∃ c M', F__law_pick [.loc n, .p (.str s)] M = .ok (.p (.str (sg c))) M' ∧ Spw n M M' ∧ c ∈ cs s := by
  have hp : (0 : Int) < (cs s).length := by
    have := List.length_pos_iff.mpr h0
    omega
  obtain ⟨r, M', e, w, r0, r1⟩ := sp_unwind (most := (cs s).length) h hp (le40_1000 hl)
  have el := len_ok (l := s) (lim_n hl)
  have hr : r.toNat < (cs s).length := by omega
  have er : r = ((r.toNat : Nat) : Int) := by omega
  generalize r.toNat = i at hr er
  subst er
  refine ⟨(cs s)[i], M', ?_, w, List.getElem_mem hr⟩
  have hix : oIx (.str s) (.int (i : Int)) = some (.p (.str (sg (cs s)[i]))) := by
    show (if s.length ≤ lim then (L2.atI (cs s) (i : Int)).map _ else none) = _
    rw [if_pos (by rw [len_cs]; exact lim_n hl), atI_nat hr]
    rfl
  unfold F__law_pick
  rw [fnB2]
  refine lv_pS ?_ w.len
  unfold b__law_pick
  infer_instance
section
variable {σ : Fr} {k : Nat}
theorem sized {EL : EvD} {L : List Int} {m : Int} {M : Sto} (h0 : σ[0]? = some (some (.loc k))) (hs : SpAt M k) (hE : EL σ M = .ok (.nw (L.map P.int)) M) (hL : ∀ x ∈ L, 0 < x ∧ x ≤ m) (hne : L ≠ []) (hlen : L.length ≤ 1000) (hm : m.natAbs < 2 ^ 1000) :
    ∃ r M', eCall 2 F__law_unwind (aCons (eVar 0) (aCons (eCall 2 F__law_pick (aCons (eVar 0) (aCons EL aNil))) aNil)) σ M = .ok (.p (.int r)) M' ∧ Spw k M M' ∧ 0 ≤ r ∧ r < m := by
  obtain ⟨q, M1, e1, w1, hq⟩ := sp_pick (ps := L.map P.int) hs (.inl rfl) (by simpa using hne) (by simpa using hlen)
  obtain ⟨x, hx, rfl⟩ := List.mem_map.mp hq
  obtain ⟨x0, x1⟩ := hL x hx
  obtain ⟨r, M2, e2, w2, r0, r1⟩ := sp_unwind (most := x) (w1.at hs) x0 (by omega)
  exact ⟨r, M2, call_ok (n := 2) (M1 := M1) (cons_v (var_ok h0) x_vall (cons_v (call_ok (n := 2) (M1 := M) (cons_v (var_ok h0) x_vall (cons_v hE x_valn nil_ok)) rfl e1) x_val nil_ok)) rfl e2, w1.trans w2, r0, by omega⟩
end
def rbOk (g : Bool) (rb : List (Str × Int)) : Prop := ∀ x ∈ rb, isLet x.1 "bgr" = true ∧ 1 ≤ x.2 ∧ x.2 ≤ GRT ∧ (g = false → x.2 ≤ 8)
def bAM : EvS := (sSeq (sSet 5 (eBin oAdd (eC (.int 1)) (eCall 2 F__law_unwind (aCons (eVar 0) (aCons (eCall 2 F__law_pick (aCons (eVar 0) (aCons (eLst (aCons (eC (.int 1)) (aCons (eC (.int 3)) (aCons (eC (.int 8)) aNil)))) aNil))) aNil)))))
    (sSeq (sIf (bTru (eVar 1)) (sSeq (sSet 5 (eBin oAdd (eC (.int 1)) (eCall 2 F__law_unwind (aCons (eVar 0) (aCons (eCall 2 F__law_pick (aCons (eVar 0) (aCons (eLst (aCons (eC (.int 5)) (aCons (eBin oPow (eC (.int 10)) (eC (.int 12))) (aCons (eBin oPow (eC (.int 10)) (eC (.int 30))) (aCons (eBin oPow (eC (.int 10)) (eC (.int 30))) aNil))))) aNil))) aNil)))))
    sNil) sNil)
    (sSeq (sSet 2 (eBin oAdd (eVar 2) (eTup (aCons (eTup (aCons (eCall 2 F__law_pick (aCons (eVar 0) (aCons (eC (.str "bgr")) aNil))) (aCons (eVar 5) aNil))) aNil))))
    sNil)))
theorem p12 : oPow (.int 10) (.int 12) = some (.p (.int 1000000000000)) := by kernel_rfl
theorem cs_bgr : cs "bgr" = [98, 103, 114] := by rfl
theorem cs_xyz : cs "xyz" = [120, 121, 122] := by rfl
theorem isLet_bgr {c : Nat} (h : c ∈ cs "bgr") : isLet (sg c) "bgr" = true := by
  simp [isLet]
  simpa using h
theorem am_step {g : Bool} {k : Nat} {rb : List (Str × Int)} {M : Sto} {x3 x4 x5 : Option D} (hs : SpAt M k) (hr : rbOk g rb) (hlen : rb.length ≤ 100) :
    ∃ y s M', bAM [some (.loc k), some (.p (.bl g)), some (.p (.tup (rb.map stP))), x3, x4, x5] M = .ok (.nx [some (.loc k), some (.p (.bl g)), some (.p (.tup ((rb ++ [s]).map stP))), x3, x4, y]) M' ∧ Spw k M M' ∧ rbOk g (rb ++ [s]) := by
  have hg := grt_big
  have hg1 := grt_1000
  have gbig : (1000000000000 : Int) ≤ GRT := by decide +kernel
  obtain ⟨r1, M1, e1, w1, r10, r11⟩ := sized (σ := [some (.loc k), some (.p (.bl g)), some (.p (.tup (rb.map stP))), x3, x4, x5]) (k := k) (EL := eLst (aCons (eC (.int 1)) (aCons (eC (.int 3)) (aCons (eC (.int 8)) aNil)))) (L := [1, 3, 8]) (m := 8) (M := M) rfl hs
    (lst_okN (ds := [.p (.int 1), .p (.int 3), .p (.int 8)]) (by infer_instance) rfl (by decide)) (by decide) (by decide) (by decide) (by decide +kernel)
  -- the size
  obtain ⟨sz, M2, e2, w2, s0, s1, s2⟩ : ∃ sz M2, sIf (bTru (eVar 1)) (sSeq (sSet 5 (eBin oAdd (eC (.int 1)) (eCall 2 F__law_unwind (aCons (eVar 0) (aCons (eCall 2 F__law_pick (aCons (eVar 0) (aCons (eLst (aCons (eC (.int 5)) (aCons (eBin oPow (eC (.int 10)) (eC (.int 12))) (aCons (eBin oPow (eC (.int 10)) (eC (.int 30))) (aCons (eBin oPow (eC (.int 10)) (eC (.int 30))) aNil))))) aNil))) aNil))))) sNil) sNil [some (.loc k), some (.p (.bl g)), some (.p (.tup (rb.map stP))), x3, x4, some (.p (.int (1 + r1)))] M1 = .ok (.nx [some (.loc k), some (.p (.bl g)), some (.p (.tup (rb.map stP))), x3, x4, some (.p (.int sz))]) M2 ∧ Spw k M1 M2 ∧ 1 ≤ sz ∧ sz ≤ GRT ∧ (g = false → sz ≤ 8) := by
    cases g with
    | false => exact ⟨1 + r1, M1, if_ff (M1 := M1) (by infer_instance) nil_s, Spw.refl, by omega, by omega, fun _ => by omega⟩
    | true =>
      have a30 := p30
      have a12 := p12
      obtain ⟨r2, M2, e2, w2, r20, r21⟩ := sized (σ := [some (.loc k), some (.p (.bl true)), some (.p (.tup (rb.map stP))), x3, x4, some (.p (.int (1 + r1)))]) (k := k) (EL := eLst (aCons (eC (.int 5)) (aCons (eBin oPow (eC (.int 10)) (eC (.int 12))) (aCons (eBin oPow (eC (.int 10)) (eC (.int 30))) (aCons (eBin oPow (eC (.int 10)) (eC (.int 30))) aNil))))) (L := [5, 1000000000000, GRT, GRT]) (m := GRT) (M := M1) rfl (w1.at hs)
        (lst_okN (ds := [.p (.int 5), .p (.int 1000000000000), .p (.int GRT), .p (.int GRT)]) (by infer_instance) rfl (Nat.le_of_ble_eq_true rfl)) (by
          intro x hx
          simp only [List.mem_cons, List.not_mem_nil, or_false] at hx
          rcases hx with rfl | rfl | rfl | rfl <;> omega) (by simp) (by simp) hg1
      exact ⟨1 + r2, M2, if_tt (M1 := M1) (by infer_instance) (seq_nx (set_v (bin_ok (d1 := .p (.int 1)) (d2 := .p (.int r2)) (M1 := M1) cst_ok e2 get_p get_p rfl) x_val) nil_s), w2, by omega, by omega, fun z => by cases z⟩
  obtain ⟨c, M3, e3, w3, hc⟩ := sp_pickS (s := "bgr") (w2.at (w1.at hs)) (by simp [cs_bgr]) (by simp [cs_bgr])
  refine ⟨some (.p (.int sz)), (sg c, sz), M3, ?_, (w1.trans w2).trans w3, fun x hx => ?_⟩
  · unfold bAM
    refine seq_nx (set_v (bin_ok (d1 := .p (.int 1)) (d2 := .p (.int r1)) (M1 := M) cst_ok e1 get_p get_p rfl) x_val) ?_
    refine seq_nx e2 ?_
    have ha : oAdd (.tup (rb.map stP)) (.tup [.tup [.str (sg c), .int sz]]) = some (.p (.tup ((rb ++ [(sg c, sz)]).map stP))) := by
      have hl : (rb.map stP).length + [P.tup [.str (sg c), .int sz]].length ≤ lim := by
        simp only [List.length_map, List.length_cons, List.length_nil]
        exact lim_n (by omega)
      show (if (rb.map stP).length + [P.tup [.str (sg c), .int sz]].length ≤ lim then _ else none) = _
      rw [if_pos hl, List.map_append]
      rfl
    infer_instance
  · rcases List.mem_append.mp hx with hx | hx
    · exact hr x hx
    · have hx := List.mem_singleton.mp hx
      subst hx
      exact ⟨isLet_bgr hc, s0, s1, s2⟩
theorem ints_of {qs : List P} (h : ∀ q ∈ qs, ∃ i : Int, q = .int i ∧ 0 ≤ i ∧ i ≤ 9) : ∃ st : List Int, qs = st.map P.int ∧ ∀ s ∈ st, 0 ≤ s ∧ s ≤ 9 := by
  induction qs with
  | nil => exact ⟨[], rfl, fun s hs => by cases hs⟩
  | cons q r ih =>
    obtain ⟨i, rfl, h0, h1⟩ := h q List.mem_cons_self
    obtain ⟨st, rfl, h2⟩ := ih fun q hq => h q (List.mem_cons_of_mem _ hq)
    exact ⟨i :: st, rfl, fun s hs => by
      rcases List.mem_cons.mp hs with rfl | hs
      · exact ⟨h0, h1⟩
      · exact h2 s hs⟩
theorem forL_invB {t : Tg} {b : EvS} (N : Nat) (I : Nat → Fr → Sto → Prop) : ∀ (ps : List P) (n : Nat) (σ : Fr) (M : Sto), I n σ M → n + ps.length ≤ N → (∀ p ∈ ps, ∀ n σ M, n < N → I n σ M → ∃ σ1 σ2 M2, tgA t p σ = some σ1 ∧ b σ1 M = .ok (.nx σ2) M2 ∧ I (n + 1) σ2 M2) → ∃ σ' M', forL t b ps σ M = .ok (.nx σ') M' ∧ I (n + ps.length) σ' M'
  | [], n, σ, M, i, _, _ => ⟨σ, M, rfl, i⟩
  | p :: ps, n, σ, M, i, hl, h => by
    have hl : n + (ps.length + 1) ≤ N := hl
    obtain ⟨σ1, σ2, M2, e1, e2, i2⟩ := h p List.mem_cons_self n σ M (by omega) i
    obtain ⟨σ', M', e3, i3⟩ := forL_invB N I ps (n + 1) σ2 M2 i2 (by omega) fun q hq => h q (List.mem_cons_of_mem _ hq)
    refine ⟨σ', M', Eq.trans (forL_nx e1 e2) e3, ?_⟩
    rw [List.length_cons, show n + (ps.length + 1) = n + 1 + ps.length by omega]
    exact i3
theorem sp_any_machine {g : Bool} {k : Nat} {M : Sto} (hs : SpAt M k) : ∃ rb st M', F__law_any_machine [.loc k, .p (.bl g)] M = .ok (.p (machP rb st)) M' ∧ Spw k M M' ∧ MOk rb st ∧ (g = false → 2 * lenS rb ≤ 1000) := by
  obtain ⟨r, M1, e1, w1, r0, r1⟩ := sp_unwind (most := 4) hs (by decide) (by decide +kernel)
  have er : 1 + r = (((1 + r).toNat : Nat) : Int) := by omega
  have hN : 1 ≤ (1 + r).toNat ∧ (1 + r).toNat ≤ 4 := by omega
  generalize (1 + r).toNat = N at er hN
  have hrl : (rgs 0 N).length = N := by simp [rgs]
  obtain ⟨σ', M2, e2, ⟨rb, x3, x5, rfl, hlen, hrb⟩, w2⟩ := forL_invB (t := .nm 3) (b := bAM) N (fun n σ M' => (∃ rb x3 x5, σ = [some (.loc k), some (.p (.bl g)), some (.p (.tup (rb.map stP))), x3, none, x5] ∧ rb.length = n ∧ rbOk g rb) ∧ Spw k M1 M') (rgs 0 N) 0
    [some (.loc k), some (.p (.bl g)), some (.p (.tup [])), none, none, none] M1 ⟨⟨[], _, _, rfl, rfl, fun x hx => by cases hx⟩, Spw.refl⟩ (by omega) (by
      rintro p hp n σ M' hn ⟨⟨rb, x3, x5, rfl, hl, hr⟩, w⟩
      obtain ⟨y, s, M3, e3, w3, hr3⟩ := am_step (g := g) (rb := rb) (x3 := some (.p p)) (x4 := none) (x5 := x5) (w.at (w1.at hs)) hr (by omega)
      exact ⟨_, _, M3, x_nm, e3, ⟨rb ++ [s], _, _, rfl, by simp [hl], hr3⟩, w.trans w3⟩)
  rw [hrl, Nat.zero_add] at hlen
  have s2 := w2.at (w1.at hs)
  obtain ⟨r2, M3, e3, w3, r20, r21⟩ := sp_unwind (most := 2) s2 (by decide) (by decide +kernel)
  have er2 : 2 + r2 = (((2 + r2).toNat : Nat) : Int) := by omega
  have hN2 : (2 + r2).toNat = 2 ∨ (2 + r2).toNat = 3 := by omega
  generalize (2 + r2).toNat = N2 at er2 hN2
  have hrl2 : (rgs 0 N2).length = N2 := by simp [rgs]
  obtain ⟨qs, M4, e4, w4, n4, g4⟩ := lc_eff (k := k) (x := 3) (M := M2) (M1 := M3) (ps := rgs 0 N2) (σ := [some (.loc k), some (.p (.bl g)), some (.p (.tup (rb.map stP))), x3, none, x5]) (fi := iRange1 (aCons (eBin oAdd (eC (.int 2)) (eCall 2 F__law_unwind (aCons (eVar 0) (aCons (eC (.int 2)) aNil)))) aNil))
    (el := eCall 2 F__law_unwind (aCons (eVar 0) (aCons (eCall 2 F__law_pick (aCons (eVar 0) (aCons (eLst (aCons (eC (.int 3)) (aCons (eC (.int 10)) aNil))) aNil))) aNil))) (fun q => ∃ i : Int, q = .int i ∧ 0 ≤ i ∧ i ≤ 9)
    (rng_ok (n := N2) (by rw [← er2]; infer_instance) (lim_n (by omega))) (w3.at s2) (by rw [hrl2]; exact lim_n (by omega)) (by
      intro p hp M' hs'
      obtain ⟨r, M5, e5, w5, r50, r51⟩ := sized (k := k) (σ := (wipeF [some (.loc k), some (.p (.bl g)), some (.p (.tup (rb.map stP))), x3, none, x5] [3]).set 3 (some (.p p))) (EL := eLst (aCons (eC (.int 3)) (aCons (eC (.int 10)) aNil))) (L := [3, 10]) (m := 10) (M := M') rfl hs'
        (lst_okN (ds := [.p (.int 3), .p (.int 10)]) (by infer_instance) rfl (by decide)) (by decide) (by decide) (by decide) (by decide +kernel)
      exact ⟨_, .int r, M5, e5, x_val, w5, r, rfl, r50, by omega⟩)
  obtain ⟨st, rfl, hst⟩ := ints_of g4
  rw [hrl2, List.length_map] at n4
  have hM : MOk rb st := { l1 := by omega, l2 := by omega, c := fun x hx => ⟨(hrb x hx).1, (hrb x hx).2.1, (hrb x hx).2.2.1⟩, s1 := by omega, s2 := hst }
  have hw := ((w1.trans w2).trans w3).trans w4
  refine ⟨rb, st, M4, ?_, hw, hM, fun hg => ?_⟩
  · unfold F__law_any_machine
    rw [fnB2]
    refine lv_pS ?_ hw.len
    unfold b__law_any_machine
    have l0 : ([] : List P).length ≤ 1000 := by decide
    refine seq_nx (M1 := M) (set_v (d := .p (.tup [])) (by infer_instance) x_val) ?_
    refine seq_nx (Eq.trans (for_ok (ps := rgs 0 N) (M1 := M1) (rng_ok (n := N) (by rw [← er]; infer_instance) (lim_n (by omega)))) e2) ?_
    have hc : cTuple [.lst (st.map P.int)] = some (.p (.tup (st.map P.int))) := rfl
    refine seq_nx (M1 := M4) (set_v (d := .p (.tup (st.map P.int))) (callB_ok (ds := [.p (.lst (st.map P.int))]) (ps := [.lst (st.map P.int)]) (M1 := M4) (cons_v e4 x_valn nil_ok) rfl hc) x_val) ?_
    exact seq_rt (ret_ok (tup_okN (M1 := M4) (ds := [.p (.tup (rb.map stP)), .p (.tup (st.map P.int))]) (cons_v (var_ok rfl) x_val (cons_v (var_ok rfl) x_val nil_ok)) rfl (Nat.le_of_ble_eq_true rfl)))
  · have := lenS_le (rb := rb) (k := 8) (fun y hy => (hrb y hy).2.2.2 hg) (by decide)
    omega
theorem joinL_sg : ∀ L : List Nat, TL.joinL [] ((L.map sg).map TL.tl) = L
  | [] => rfl
  | [_] => rfl
  | a :: b :: r => by
    show [a] ++ ([] ++ TL.joinL [] (((b :: r).map sg).map TL.tl)) = _
    rw [joinL_sg (b :: r)]
    rfl
theorem cs_join (L : List Nat) : cs (Txt.join "" (L.map sg)) = L := by
  have e : Txt.join "" (L.map sg) = Str.join "" (L.map sg) := TL.join_eq _ _
  rw [e]
  refine Eq.trans (TL.tl_join "" (L.map sg)) ?_
  have e0 : TL.tl "" = [] := by rfl
  rw [e0, joinL_sg]
end Ev


set_option linter.all false
set_option maxRecDepth 100000
set_option maxHeartbeats 400000
/-! k01: what a value is; is_machine of any value. -/
namespace Ev
open PySem
def letB (l : Str) : P → Bool
  | .str s => isLet s l
  | _ => false
def stB : P → Bool
  | .tup [a, b] => letB "bgr" a && intOk b 1 GRT
  | _ => false
def digB (p : P) : Bool := intOk p 0 9
def stepsB : P → Bool
  | .tup st => (decide (st.length = 2) || decide (st.length = 3)) && st.all digB
  | _ => false
def isM : P → Bool
  | .tup [.tup rb, s] => (decide (1 ≤ rb.length) && decide (rb.length ≤ 6)) && (rb.all stB && stepsB s)
  | _ => false
def KB : Nat := 10 ^ 31
def atomV (t : Nat) : P → Prop
  | .non => True
  | .bl _ => True
  | .int i => i.natAbs ≤ (t + 1) * KB
  | .str s => sOk s = true ∧ (cs s).length ≤ 60 + t
  | _ => False
/-- a value of depth at most n, with bounds that grow with t -/
def VB (t : Nat) : Nat → P → Prop
  | 0, p => atomV t p
  | n + 1, p => match p with
    | .tup ps => ps.length ≤ 60 + t ∧ ∀ q ∈ ps, VB t n q
    | .lst ps => ps.length ≤ 60 + t ∧ ∀ q ∈ ps, VB t n q
    | p => atomV t p
theorem VB.int {t n : Nat} {i : Int} (h : i.natAbs ≤ (t + 1) * KB) : VB t n (.int i) := by cases n <;> exact h
theorem VB.int_ {t n : Nat} {i : Int} (h : VB t n (.int i)) : i.natAbs ≤ (t + 1) * KB := by cases n <;> exact h
theorem VB.str {t n : Nat} {s : Str} (h : sOk s = true) (h2 : (cs s).length ≤ 60 + t) : VB t n (.str s) := by cases n <;> exact ⟨h, h2⟩
theorem VB.str_ {t n : Nat} {s : Str} (h : VB t n (.str s)) : sOk s = true ∧ (cs s).length ≤ 60 + t := by cases n <;> exact h
theorem VB.non {t n : Nat} : VB t n .non := by cases n <;> trivial
theorem VB.bl {t n : Nat} {b : Bool} : VB t n (.bl b) := by cases n <;> trivial
theorem VB.tup {t n : Nat} {ps : List P} (h : ps.length ≤ 60 + t) (h2 : ∀ q ∈ ps, VB t n q) : VB t (n + 1) (.tup ps) := ⟨h, h2⟩
theorem VB.lst {t n : Nat} {ps : List P} (h : ps.length ≤ 60 + t) (h2 : ∀ q ∈ ps, VB t n q) : VB t (n + 1) (.lst ps) := ⟨h, h2⟩
theorem VB.tup_ {t n : Nat} {ps : List P} (h : VB t n (.tup ps)) : ps.length ≤ 60 + t ∧ ∃ m, n = m + 1 ∧ ∀ q ∈ ps, VB t m q := by
  cases n with
  | zero => exact h.elim
  | succ m => exact ⟨h.1, m, rfl, h.2⟩
theorem VB.lst_ {t n : Nat} {ps : List P} (h : VB t n (.lst ps)) : ps.length ≤ 60 + t ∧ ∃ m, n = m + 1 ∧ ∀ q ∈ ps, VB t m q := by
  cases n with
  | zero => exact h.elim
  | succ m => exact ⟨h.1, m, rfl, h.2⟩
theorem VB.good {t n : Nat} {p : P} (h : VB t n p) : goodP p = true := by
  cases p <;> first | rfl | (cases n <;> exact h.elim)
theorem datLB_of {n : Nat} : ∀ {ps : List P}, (∀ p ∈ ps, datB p n = true) → datLB ps n = true
  | [], _ => by rw [datLB]
  | p :: ps, h => by
    rw [datLB, h p List.mem_cons_self, datLB_of fun q hq => h q (List.mem_cons_of_mem _ hq)]; rfl
theorem VB.dat {t : Nat} : ∀ {n : Nat} {p : P}, VB t n p → datB p n = true
  | n, .non, _ => by rw [datB]
  | n, .bl _, _ => by rw [datB]
  | n, .int _, _ => by rw [datB]
  | n, .str s, h => by rw [datB]; exact h.str_.1
  | n, .tup ps, h => by
    obtain ⟨h1, m, rfl, h2⟩ := h.tup_
    rw [datB, datLB_of (n := m + 1 - 1) fun p hp => (h2 p hp).dat]; simp
  | n, .lst ps, h => by
    obtain ⟨h1, m, rfl, h2⟩ := h.lst_
    rw [datB, datLB_of (n := m + 1 - 1) fun p hp => (h2 p hp).dat]; simp
  | n, .fn _, h => by cases n <;> exact h.elim
  | n, .scr _, h => by cases n <;> exact h.elim
  | n, .adr _, h => by cases n <;> exact h.elim
theorem VB.mono {t u : Nat} (ht : t ≤ u) : ∀ {n m : Nat} {p : P}, n ≤ m → VB t n p → VB u m p
  | n, m, .non, _, _ => VB.non
  | n, m, .bl _, _, _ => VB.bl
  | n, m, .int _, _, h => VB.int (Nat.le_trans h.int_ (Nat.mul_le_mul_right _ (by omega)))
  | n, m, .str s, _, h => VB.str h.str_.1 (by have := h.str_.2; omega)
  | n, m, .tup ps, hn, h => by
    obtain ⟨h1, k, rfl, h2⟩ := h.tup_
    cases m with
    | zero => omega
    | succ m => exact VB.tup (by omega) fun q hq => VB.mono ht (by omega) (h2 q hq)
  | n, m, .lst ps, hn, h => by
    obtain ⟨h1, k, rfl, h2⟩ := h.lst_
    cases m with
    | zero => omega
    | succ m => exact VB.lst (by omega) fun q hq => VB.mono ht (by omega) (h2 q hq)
  | n, m, .fn _, _, h => by cases n <;> exact h.elim
  | n, m, .scr _, _, h => by cases n <;> exact h.elim
  | n, m, .adr _, _, h => by cases n <;> exact h.elim
local macro_rules
  | `(tactic| infer_instance) => `(tactic| first
    | with_reducible exact nil_ok
    | with_reducible exact cst_ok
    | with_reducible exact nil_s
    | with_reducible exact raise_ok
    | with_reducible exact x_val
    | with_reducible exact x_valn
    | with_reducible exact x_vall
    | with_reducible exact get_p
    | with_reducible exact get_n
    | (with_reducible apply getl_); first | with_reducible assumption | infer_instance
    | (with_reducible apply var_ok); first | with_reducible assumption | rfl
    | with_reducible exact getL0
    | with_reducible exact sNone_ok
    | (with_reducible apply sSome_ok) <;> infer_instance
    | (with_reducible apply eSl_ok) <;> infer_instance
    | (with_reducible apply rng_ok) <;> infer_instance
    | (with_reducible apply iof_str) <;> infer_instance
    | (with_reducible apply iof_nw) <;> infer_instance
    | (with_reducible apply iof_lst) <;> infer_instance
    | (with_reducible apply iof_tup) <;> infer_instance
    | with_reducible exact allP0
    | (with_reducible apply getLc) <;> infer_instance
    | (with_reducible apply allPc) <;> infer_instance
    | (with_reducible apply cons_v) <;> infer_instance
    | (with_reducible apply seq_nx) <;> infer_instance
    | (with_reducible apply seq_rt) <;> infer_instance
    | (with_reducible apply seq_er) <;> infer_instance
    | (with_reducible apply set_v) <;> infer_instance
    | (with_reducible apply setM_ok') <;> infer_instance
    | (with_reducible apply ret_ok) <;> infer_instance
    | (with_reducible apply exp_ok) <;> infer_instance
    | (with_reducible apply exp_er) <;> infer_instance
    | (with_reducible apply if_tt) <;> infer_instance
    | (with_reducible apply if_ff) <;> infer_instance
    | (with_reducible apply bof_ok) <;> infer_instance
    | (with_reducible apply btru_ok) <;> infer_instance
    | (with_reducible apply bnot_t) <;> infer_instance
    | (with_reducible apply bnot_f) <;> infer_instance
    | (with_reducible apply band_tt) <;> infer_instance
    | (with_reducible apply band_f) <;> infer_instance
    | (with_reducible apply bor_t) <;> infer_instance
    | (with_reducible apply bor_ff) <;> infer_instance
    | (with_reducible apply and_tt) <;> infer_instance
    | (with_reducible apply and_ff) <;> infer_instance
    | (with_reducible apply ife_tt) <;> infer_instance
    | (with_reducible apply ife_ff) <;> infer_instance
    | (with_reducible apply not_t) <;> infer_instance
    | (with_reducible apply not_f) <;> infer_instance
    | (with_reducible apply neg_ok) <;> infer_instance
    | (with_reducible apply isi_ok) <;> infer_instance
    | (with_reducible apply chain_t) <;> infer_instance
    | (with_reducible apply chain_f) <;> infer_instance
    | (with_reducible apply bin_ok) <;> infer_instance
    | (with_reducible apply callB_ok) <;> infer_instance
    | (with_reducible apply mt_ok) <;> infer_instance
    | (with_reducible apply call_ok) <;> infer_instance
    | (with_reducible apply call_er) <;> infer_instance
    | (with_reducible apply word_er) <;> infer_instance
    | (with_reducible apply lst_okN) <;> infer_instance
    | (with_reducible apply tup_okN) <;> infer_instance
    | (with_reducible apply par_ok) <;> infer_instance
    | with_reducible assumption
    | ((with_reducible apply lt_t); omega)
    | ((with_reducible apply lt_f); omega)
    | ((with_reducible apply le_t); omega)
    | ((with_reducible apply le_f); omega)
    | ((with_reducible apply gt_t); omega)
    | ((with_reducible apply gt_f); omega)
    | ((with_reducible apply ge_t); omega)
    | ((with_reducible apply ge_f); omega)
    | ((with_reducible apply eq_t); omega)
    | ((with_reducible apply eq_f); omega)
    | ((with_reducible apply ne_t); omega)
    | ((with_reducible apply ne_f); omega)
    | ((with_reducible apply o_mod_i); omega)
    | (with_reducible apply mul_small_l) <;> omega
    | (with_reducible apply mul_small_r) <;> omega
    | with_reducible exact isi1 | with_reducible exact isi2 | with_reducible exact isi3 | with_reducible exact isi4 | with_reducible exact isi5 | with_reducible exact isi6
    | ((with_reducible apply Nat.le_of_ble_eq_true); rfl)
    | rfl)

section
variable {t n : Nat} {v : P} {l : Str} {M : Sto}
theorem lim_mil : 1000000 ≤ lim := by decide +kernel
theorem c60 {k : Nat} (ht : t ≤ 900000) (h : k ≤ 60 + t) : k ≤ lim := Nat.le_trans (show k ≤ 1000000 by omega) lim_mil
theorem letter_no {ty : String} (h1 : v.ty = some ty) (h : isiB ty "str" = false) : F_is_letter [.p v, .p (.str l)] M = .ok (.p (.bl false)) M := by
  have q : P.tru (.bl false) = some false := rfl
  unfold F_is_letter; rw [fnB2]; refine lv_p ?_; unfold b_is_letter
  infer_instance
theorem letter_any (h : VB t n v) (ht : t ≤ 900000) : F_is_letter [.p v, .p (.str l)] M = .ok (.p (.bl (letB l v))) M := by
  cases v with
  | str s =>
    have q : P.tru (.bl false) = some false := rfl
    have q2 : P.tru (.bl true) = some true := rfl
    have q1 : isiB "str" "str" = true := by decide
    have q3 : P.ty (.str s) = some "str" := rfl
    have el := len_ok (l := s) (c60 ht h.str_.2)
    unfold F_is_letter; rw [fnB2]; refine lv_p ?_; unfold b_is_letter
    by_cases h1 : (cs s).length = 1
    · obtain ⟨c, hc⟩ := List.length_eq_one_iff.mp h1
      have hs : s = sg c := one_sign hc
      subst hs
      have e2 := oIn_s (c := c) (l := l)
      have e0 : letB l (.str (sg c)) = decide (c ∈ l.cps.toList) := rfl
      rw [e0]
      infer_instance
    · have e0 : letB l (.str s) = false := by
        show isLet s l = false
        unfold isLet
        split
        · rename_i c e
          exact absurd (by rw [show cs s = [c] from e]; rfl) h1
        · rfl
      rw [e0]
      have e3 : oEq (.int ((cs s).length : Int)) (.int 1) = some (.p (.bl false)) := eq_f (by omega)
      infer_instance
  | non => exact letter_no rfl (by decide)
  | bl _ => exact letter_no rfl (by decide)
  | int _ => exact letter_no rfl (by decide)
  | tup _ => exact letter_no rfl (by decide)
  | lst _ => exact letter_no rfl (by decide)
  | fn _ => cases h.good
  | scr _ => cases h.good
  | adr _ => cases h.good
theorem stretch_no {ty : String} (h1 : v.ty = some ty) (h : isiB ty "tuple" = false) : F_is_stretch [.p v] M = .ok (.p (.bl false)) M := by
  have q : P.tru (.bl false) = some false := rfl
  unfold F_is_stretch; rw [fnB1]; refine lv_p ?_; unfold b_is_stretch
  exact seq_rt (if_tt (M1 := M) (bor_t (bnot_t (by infer_instance))) (by infer_instance))
theorem len2 {α : Type} {l : List α} (h : l.length = 2) : ∃ a b, l = [a, b] := by
  match l, h with
  | [a, b], _ => exact ⟨a, b, rfl⟩
theorem stretch_any (h : VB t n v) (ht : t ≤ 900000) : F_is_stretch [.p v] M = .ok (.p (.bl (stB v))) M := by
  cases v with
  | tup ps =>
    obtain ⟨h1, m, rfl, h2⟩ := h.tup_
    have q : P.tru (.bl false) = some false := rfl
    have q2 : P.tru (.bl true) = some true := rfl
    have q1 : isiB "tuple" "tuple" = true := by decide
    have q3 : P.ty (.tup ps) = some "tuple" := rfl
    have el : cLen [.tup ps] = some (.p (.int (ps.length : Int))) := rfl
    unfold F_is_stretch; rw [fnB1]; refine lv_p ?_; unfold b_is_stretch
    by_cases hl : ps.length = 2
    · obtain ⟨a, b, rfl⟩ := len2 hl
      have e1 := letter_any (M := M) (l := "bgr") (h2 a (by simp)) ht
      have e2 := is_integer_any (M := M) (lo := 1) (hi := GRT) (h2 b (by simp)).good
      have i0 : oIx (.tup [a, b]) (.int 0) = some (.p a) := oIx0
      have i1 : oIx (.tup [a, b]) (.int 1) = some (.p b) := oIx1
      have n2 : oNe (.int (([a, b] : List P).length : Int)) (.int 2) = some (.p (.bl false)) := ne_f rfl
      have hs : stB (.tup [a, b]) = (letB "bgr" a && intOk b 1 GRT) := rfl
      rw [hs]
      refine seq_nx (M1 := M) (if_ff (M1 := M) (bor_ff (M1 := M) (bnot_f (by infer_instance)) (by infer_instance)) nil_s) ?_
      cases hb : letB "bgr" a with
      | false =>
        rw [hb] at e1
        rw [Bool.false_and]
        infer_instance
      | true =>
        rw [hb] at e1
        rw [Bool.true_and]
        infer_instance
    · have hs : stB (.tup ps) = false := by
        unfold stB
        split
        · rename_i a b e
          exact absurd (by cases e; rfl) hl
        · rfl
      rw [hs]
      have n2 : oNe (.int (ps.length : Int)) (.int 2) = some (.p (.bl true)) := ne_t (by omega)
      exact seq_rt (if_tt (M1 := M) (bor_ff (M1 := M) (bnot_f (by infer_instance)) (by infer_instance)) (by infer_instance))
  | non => exact stretch_no rfl (by decide)
  | bl _ => exact stretch_no rfl (by decide)
  | int _ => exact stretch_no rfl (by decide)
  | str _ => exact stretch_no rfl (by decide)
  | lst _ => exact stretch_no rfl (by decide)
  | fn _ => cases h.good
  | scr _ => cases h.good
  | adr _ => cases h.good
theorem all_bl (g : P → Bool) (ps : List P) : cAll [.lst (ps.map fun p => .bl (g p))] = some (.p (.bl (ps.all g))) := by
  rw [show (ps.map fun p => P.bl (g p)) = (ps.map g).map P.bl by simp, cAll_map, List.all_map]; rfl
theorem machine_no {ty : String} (h1 : v.ty = some ty) (h : isiB ty "tuple" = false) : F_is_machine [.p v] M = .ok (.p (.bl false)) M := by
  have q : P.tru (.bl false) = some false := rfl
  unfold F_is_machine; rw [fnB1]; refine lv_p ?_; unfold b_is_machine
  exact seq_rt (if_tt (M1 := M) (bor_t (bnot_t (by infer_instance))) (by infer_instance))
def bM3 : EvS := (sSeq (sIf (bOr (bNot (bTru (eIsi "tuple" (eVar 1)))) (bNot (bOf (eChain oLe oLe (eC (.int 1)) (eCB cLen (aCons (eVar 1) aNil)) (eC (.int 6)))))) (sSeq (sRet (eC (.bl false)))
    sNil) sNil)
    (sSeq (sIf (bNot (bTru (eCB cAll (aCons (eLc (.nm 4) [4] (iOf (eVar 1)) bYes (eCall 1 F_is_stretch (aCons (eVar 4) aNil))) aNil)))) (sSeq (sRet (eC (.bl false)))
    sNil) sNil)
    (sSeq (sIf (bOr (bNot (bTru (eIsi "tuple" (eVar 2)))) (bOf (eBin oNotIn (eCB cLen (aCons (eVar 2) aNil)) (eTup (aCons (eC (.int 2)) (aCons (eC (.int 3)) aNil)))))) (sSeq (sRet (eC (.bl false)))
    sNil) sNil)
    (sSeq (sRet (eCB cAll (aCons (eLc (.nm 3) [3] (iOf (eVar 2)) bYes (eCall 3 F_is_integer (aCons (eVar 3) (aCons (eC (.int 0)) (aCons (eC (.int 9)) aNil))))) aNil)))
    sNil))))
theorem not23 (k : Nat) : oNotIn (.int (k : Int)) (.tup [.int 2, .int 3]) = some (.p (.bl (!(decide (k = 2) || decide (k = 3))))) := by
  by_cases h2 : k = 2
  · subst h2; rfl
  · by_cases h3 : k = 3
    · subst h3; rfl
    · have e : inB (.int (k : Int)) (.tup [.int 2, .int 3]) = some (L2.inV (.int (k : Int)) [.int 2, .int 3]) := rfl
      unfold oNotIn
      rw [e]
      have : L2.inV (.int (k : Int)) [.int 2, .int 3] = false := by
        have a2 : ¬ ((k : Int) = 2) := by omega
        have a3 : ¬ ((k : Int) = 3) := by omega
        have b2 : ¬ ((2 : Int) = k) := by omega
        have b3 : ¬ ((3 : Int) = k) := by omega
        simp [L2.inV, L2.eqV, a2, a3, b2, b3]
      rw [this]
      simp [h2, h3]
theorem not23l (k : Nat) : oNotIn (.int (k : Int)) (.lst [.int 2, .int 3]) = some (.p (.bl (!(decide (k = 2) || decide (k = 3))))) := not23 k
end
end Ev


set_option linter.all false
set_option maxRecDepth 100000
set_option maxHeartbeats 400000
/-! k01: is_machine and the law's own test agree with isM. -/
namespace Ev
open PySem
local macro_rules
  | `(tactic| infer_instance) => `(tactic| first
    | with_reducible exact nil_ok
    | with_reducible exact cst_ok
    | with_reducible exact nil_s
    | with_reducible exact raise_ok
    | with_reducible exact x_val
    | with_reducible exact x_valn
    | with_reducible exact x_vall
    | with_reducible exact get_p
    | with_reducible exact get_n
    | (with_reducible apply getl_); first | with_reducible assumption | infer_instance
    | (with_reducible apply var_ok); first | with_reducible assumption | rfl
    | with_reducible exact getL0
    | with_reducible exact sNone_ok
    | (with_reducible apply sSome_ok) <;> infer_instance
    | (with_reducible apply eSl_ok) <;> infer_instance
    | (with_reducible apply rng_ok) <;> infer_instance
    | (with_reducible apply iof_str) <;> infer_instance
    | (with_reducible apply iof_nw) <;> infer_instance
    | (with_reducible apply iof_lst) <;> infer_instance
    | (with_reducible apply iof_tup) <;> infer_instance
    | with_reducible exact allP0
    | (with_reducible apply getLc) <;> infer_instance
    | (with_reducible apply allPc) <;> infer_instance
    | (with_reducible apply cons_v) <;> infer_instance
    | (with_reducible apply seq_nx) <;> infer_instance
    | (with_reducible apply seq_rt) <;> infer_instance
    | (with_reducible apply seq_er) <;> infer_instance
    | (with_reducible apply set_v) <;> infer_instance
    | (with_reducible apply setM_ok') <;> infer_instance
    | (with_reducible apply ret_ok) <;> infer_instance
    | (with_reducible apply exp_ok) <;> infer_instance
    | (with_reducible apply exp_er) <;> infer_instance
    | (with_reducible apply if_tt) <;> infer_instance
    | (with_reducible apply if_ff) <;> infer_instance
    | (with_reducible apply bof_ok) <;> infer_instance
    | (with_reducible apply btru_ok) <;> infer_instance
    | (with_reducible apply bnot_t) <;> infer_instance
    | (with_reducible apply bnot_f) <;> infer_instance
    | (with_reducible apply band_tt) <;> infer_instance
    | (with_reducible apply band_f) <;> infer_instance
    | (with_reducible apply bor_t) <;> infer_instance
    | (with_reducible apply bor_ff) <;> infer_instance
    | (with_reducible apply and_tt) <;> infer_instance
    | (with_reducible apply and_ff) <;> infer_instance
    | (with_reducible apply ife_tt) <;> infer_instance
    | (with_reducible apply ife_ff) <;> infer_instance
    | (with_reducible apply not_t) <;> infer_instance
    | (with_reducible apply not_f) <;> infer_instance
    | (with_reducible apply neg_ok) <;> infer_instance
    | (with_reducible apply isi_ok) <;> infer_instance
    | (with_reducible apply chain_t) <;> infer_instance
    | (with_reducible apply chain_f) <;> infer_instance
    | (with_reducible apply bin_ok) <;> infer_instance
    | (with_reducible apply callB_ok) <;> infer_instance
    | (with_reducible apply mt_ok) <;> infer_instance
    | (with_reducible apply call_ok) <;> infer_instance
    | (with_reducible apply call_er) <;> infer_instance
    | (with_reducible apply word_er) <;> infer_instance
    | (with_reducible apply lst_okN) <;> infer_instance
    | (with_reducible apply tup_okN) <;> infer_instance
    | (with_reducible apply par_ok) <;> infer_instance
    | with_reducible assumption
    | ((with_reducible apply lt_t); omega)
    | ((with_reducible apply lt_f); omega)
    | ((with_reducible apply le_t); omega)
    | ((with_reducible apply le_f); omega)
    | ((with_reducible apply gt_t); omega)
    | ((with_reducible apply gt_f); omega)
    | ((with_reducible apply ge_t); omega)
    | ((with_reducible apply ge_f); omega)
    | ((with_reducible apply eq_t); omega)
    | ((with_reducible apply eq_f); omega)
    | ((with_reducible apply ne_t); omega)
    | ((with_reducible apply ne_f); omega)
    | ((with_reducible apply o_mod_i); omega)
    | (with_reducible apply mul_small_l) <;> omega
    | (with_reducible apply mul_small_r) <;> omega
    | with_reducible exact isi1 | with_reducible exact isi2 | with_reducible exact isi3 | with_reducible exact isi4 | with_reducible exact isi5 | with_reducible exact isi6
    | ((with_reducible apply Nat.le_of_ble_eq_true); rfl)
    | rfl)

section
variable {t n : Nat} {v r s : P} {l : Str} {M : Sto} {x0 x1 x3 x4 : Option D}
theorem isM_r (h : ∀ rb, r ≠ .tup rb) : isM (.tup [r, s]) = false := by
  cases r <;> first | rfl | exact absurd rfl (h _)
theorem isM_l {ps : List P} (h : ps.length ≠ 2) : isM (.tup ps) = false := by
  unfold isM
  split
  · rename_i a b e
    exact absurd (by cases e; rfl) h
  · rfl
theorem bM3_no {ty : String} (h1 : r.ty = some ty) (h : isiB ty "tuple" = false) : bM3 [x0, some (.p r), some (.p s), x3, x4] M = .ok (.rt (.p (.bl false))) M := by
  have q : P.tru (.bl false) = some false := rfl
  unfold bM3
  exact seq_rt (if_tt (M1 := M) (bor_t (bnot_t (by infer_instance))) (by infer_instance))
theorem bM3_ok {rb : List P} (hr : VB t n (.tup rb)) (hs : VB t n s) (ht : t ≤ 900000) : bM3 [x0, some (.p (.tup rb)), some (.p s), x3, x4] M = .ok (.rt (.p (.bl (isM (.tup [.tup rb, s]))))) M := by
  have q : P.tru (.bl false) = some false := rfl
  have q2 : P.tru (.bl true) = some true := rfl
  have q1 : isiB "tuple" "tuple" = true := by decide
  have q3 : P.ty (.tup rb) = some "tuple" := rfl
  have el : cLen [.tup rb] = some (.p (.int (rb.length : Int))) := rfl
  obtain ⟨hl, m, rfl, hm⟩ := hr.tup_
  have e1 : eLc (.nm 4) [4] (iOf (eVar 1)) bYes (eCall 1 F_is_stretch (aCons (eVar 4) aNil)) [x0, some (.p (.tup rb)), some (.p s), x3, x4] M = .ok (.nw (rb.map fun p => .bl (stB p))) M :=
    eLc_map (fun p => .bl (stB p)) (iof_tup (var_ok rfl)) rfl (fun p hp => ⟨_, x_nm, fun M' => ⟨_, call_ok (n := 1) (M1 := M') (cons_v (var_ok rfl) x_val nil_ok) rfl (stretch_any (hm p hp) ht), x_val⟩⟩) (c60 ht hl)
  have a1 := all_bl stB rb
  have hu : isM (.tup [.tup rb, s]) = ((decide (1 ≤ rb.length) && decide (rb.length ≤ 6)) && (rb.all stB && stepsB s)) := rfl
  rw [hu]
  unfold bM3
  by_cases h1 : 1 ≤ rb.length
  · by_cases h6 : rb.length ≤ 6
    · rw [decide_eq_true h1, decide_eq_true h6, Bool.true_and, Bool.true_and]
      refine seq_nx (M1 := M) (if_ff (M1 := M) (bor_ff (M1 := M) (bnot_f (by infer_instance)) (bnot_f (by infer_instance))) nil_s) ?_
      cases hb : rb.all stB with
      | false =>
        rw [hb] at a1
        rw [Bool.false_and]
        exact seq_rt (if_tt (M1 := M) (bnot_t (by infer_instance)) (by infer_instance))
      | true =>
        rw [hb] at a1
        rw [Bool.true_and]
        refine seq_nx (M1 := M) (if_ff (M1 := M) (bnot_f (by infer_instance)) nil_s) ?_
        have no : ∀ {ty : String}, s.ty = some ty → isiB ty "tuple" = false → sSeq (sIf (bOr (bNot (bTru (eIsi "tuple" (eVar 2)))) (bOf (eBin oNotIn (eCB cLen (aCons (eVar 2) aNil)) (eTup (aCons (eC (.int 2)) (aCons (eC (.int 3)) aNil)))))) (sSeq (sRet (eC (.bl false))) sNil) sNil)
            (sSeq (sRet (eCB cAll (aCons (eLc (.nm 3) [3] (iOf (eVar 2)) bYes (eCall 3 F_is_integer (aCons (eVar 3) (aCons (eC (.int 0)) (aCons (eC (.int 9)) aNil))))) aNil))) sNil) [x0, some (.p (.tup rb)), some (.p s), x3, x4] M = .ok (.rt (.p (.bl false))) M := fun {ty} h1 h2 =>
          seq_rt (if_tt (M1 := M) (bor_t (bnot_t (by infer_instance))) (by infer_instance))
        cases s with
        | tup st =>
          clear no
          obtain ⟨hl2, m2, e2, hm2⟩ := hs.tup_
          have q4 : P.ty (.tup st) = some "tuple" := rfl
          have el2 : cLen [.tup st] = some (.p (.int (st.length : Int))) := rfl
          have n2 := not23 st.length
          have e3 : eLc (.nm 3) [3] (iOf (eVar 2)) bYes (eCall 3 F_is_integer (aCons (eVar 3) (aCons (eC (.int 0)) (aCons (eC (.int 9)) aNil)))) [x0, some (.p (.tup rb)), some (.p (.tup st)), x3, x4] M = .ok (.nw (st.map fun p => .bl (digB p))) M :=
            eLc_map (fun p => .bl (digB p)) (iof_tup (var_ok rfl)) rfl (fun p hp => ⟨_, x_nm, fun M' => ⟨_, call_ok (n := 3) (M1 := M') (cons_v (var_ok rfl) x_val (cons_v cst_ok x_val (cons_v cst_ok x_val nil_ok))) rfl (is_integer_any (hm2 p hp).good), x_val⟩⟩) (c60 ht hl2)
          have a2 := all_bl digB st
          have hv : stepsB (.tup st) = ((decide (st.length = 2) || decide (st.length = 3)) && st.all digB) := rfl
          rw [hv]
          have tl : eTup (aCons (eC (.int 2)) (aCons (eC (.int 3)) aNil)) [x0, some (.p (.tup rb)), some (.p (.tup st)), x3, x4] M = .ok (.p (.tup [.int 2, .int 3])) M := tup_okN (M1 := M) (ds := [.p (.int 2), .p (.int 3)]) (by infer_instance) rfl (by decide)
          generalize (decide (st.length = 2) || decide (st.length = 3)) = b at n2
          cases b with
          | false =>
            have n2 : oNotIn (.int (st.length : Int)) (.tup [.int 2, .int 3]) = some (.p (.bl true)) := n2
            exact seq_rt (if_tt (M1 := M) (bor_ff (M1 := M) (bnot_f (by infer_instance)) (by infer_instance)) (by infer_instance))
          | true =>
            have n2 : oNotIn (.int (st.length : Int)) (.tup [.int 2, .int 3]) = some (.p (.bl false)) := n2
            rw [Bool.true_and]
            refine seq_nx (M1 := M) (if_ff (M1 := M) (bor_ff (M1 := M) (bnot_f (by infer_instance)) (by infer_instance)) nil_s) ?_
            infer_instance
        | non => exact no rfl (by decide)
        | bl _ => exact no rfl (by decide)
        | int _ => exact no rfl (by decide)
        | str _ => exact no rfl (by decide)
        | lst _ => exact no rfl (by decide)
        | fn _ => cases hs.good
        | scr _ => cases hs.good
        | adr _ => cases hs.good
    · rw [decide_eq_false h6, Bool.and_false, Bool.false_and]
      exact seq_rt (if_tt (M1 := M) (bor_ff (M1 := M) (bnot_f (by infer_instance)) (bnot_t (by infer_instance))) (by infer_instance))
  · rw [decide_eq_false h1, Bool.false_and, Bool.false_and]
    exact seq_rt (if_tt (M1 := M) (bor_ff (M1 := M) (bnot_f (by infer_instance)) (bnot_t (by infer_instance))) (by infer_instance))
theorem machine_any (h : VB t n v) (ht : t ≤ 900000) : F_is_machine [.p v] M = .ok (.p (.bl (isM v))) M := by
  cases v with
  | tup ps =>
    obtain ⟨h1, m, rfl, h2⟩ := h.tup_
    have q : P.tru (.bl false) = some false := rfl
    have q2 : P.tru (.bl true) = some true := rfl
    have q1 : isiB "tuple" "tuple" = true := by decide
    have q3 : P.ty (.tup ps) = some "tuple" := rfl
    have el : cLen [.tup ps] = some (.p (.int (ps.length : Int))) := rfl
    unfold F_is_machine; rw [fnB1]; refine lv_p ?_; unfold b_is_machine
    by_cases hl : ps.length = 2
    · obtain ⟨a, b, rfl⟩ := len2 hl
      have n2 : oNe (.int (([a, b] : List P).length : Int)) (.int 2) = some (.p (.bl false)) := ne_f rfl
      refine seq_nx (M1 := M) (if_ff (M1 := M) (bor_ff (M1 := M) (bnot_f (by infer_instance)) (by infer_instance)) nil_s) ?_
      refine seq_nx (M1 := M) (unp_ok (M1 := M) (p := .tup [a, b]) (var_ok rfl) tu2) ?_
      have ha := h2 a (by simp)
      have hb := h2 b (by simp)
      have no : ∀ {ty : String}, a.ty = some ty → isiB ty "tuple" = false → (∀ rb, a ≠ .tup rb) → bM3 [some (.p (.tup [a, b])), some (.p a), some (.p b), none, none] M = .ok (.rt (.p (.bl (isM (.tup [a, b]))))) M := fun h1 h2 h3 => by rw [isM_r h3]; exact bM3_no h1 h2
      show bM3 [some (.p (.tup [a, b])), some (.p a), some (.p b), none, none] M = _
      cases a with
      | tup rb => exact bM3_ok ha hb ht
      | non => exact no rfl (by decide) nofun
      | bl _ => exact no rfl (by decide) nofun
      | int _ => exact no rfl (by decide) nofun
      | str _ => exact no rfl (by decide) nofun
      | lst _ => exact no rfl (by decide) nofun
      | fn _ => cases ha.good
      | scr _ => cases ha.good
      | adr _ => cases ha.good
    · rw [isM_l hl]
      have n2 : oNe (.int (ps.length : Int)) (.int 2) = some (.p (.bl true)) := ne_t (by omega)
      exact seq_rt (if_tt (M1 := M) (bor_ff (M1 := M) (bnot_f (by infer_instance)) (by infer_instance)) (by infer_instance))
  | non => exact machine_no rfl (by decide)
  | bl _ => exact machine_no rfl (by decide)
  | int _ => exact machine_no rfl (by decide)
  | str _ => exact machine_no rfl (by decide)
  | lst _ => exact machine_no rfl (by decide)
  | fn _ => cases h.good
  | scr _ => cases h.good
  | adr _ => cases h.good
end
end Ev


set_option linter.all false
set_option maxRecDepth 100000
set_option maxHeartbeats 400000
/-! k01: the law's own test of a machine agrees with isM. -/
namespace Ev
open PySem
theorem forL_chk {b : EvS} {t : Tg} (g : P → Bool) (I : Fr → Prop) (r : D) {M : Sto} : ∀ (ps : List P) (σ : Fr), I σ →
    (∀ p ∈ ps, ∀ σ, I σ → ∃ σ1, tgA t p σ = some σ1 ∧ (g p = true → ∃ σ2, b σ1 M = .ok (.nx σ2) M ∧ I σ2) ∧ (g p = false → b σ1 M = .ok (.rt r) M)) →
    (ps.all g = true → ∃ σ', forL t b ps σ M = .ok (.nx σ') M ∧ I σ') ∧ (ps.all g = false → forL t b ps σ M = .ok (.rt r) M)
  | [], σ, i, _ => ⟨fun _ => ⟨σ, rfl, i⟩, fun h => (by cases h)⟩
  | p :: ps, σ, i, h => by
    obtain ⟨σ1, e1, e2, e3⟩ := h p List.mem_cons_self σ i
    rw [List.all_cons]
    cases hg : g p with
    | false =>
      refine ⟨fun z => (by cases z), fun _ => forL_rt e1 (e3 hg)⟩
    | true =>
      obtain ⟨σ2, e4, i2⟩ := e2 hg
      obtain ⟨a, c⟩ := forL_chk g I r ps σ2 i2 fun q hq => h q (List.mem_cons_of_mem _ hq)
      rw [Bool.true_and]
      exact ⟨fun z => (by
        obtain ⟨σ', e5, i3⟩ := a z
        exact ⟨σ', Eq.trans (forL_nx e1 e4) e5, i3⟩), fun z => Eq.trans (forL_nx e1 e4) (c z)⟩
theorem str_b : ("b" : Str) = sg 98 := by kernel_rfl
theorem str_g : ("g" : Str) = sg 103 := by kernel_rfl
theorem str_r : ("r" : Str) = sg 114 := by kernel_rfl
theorem bgr_in (s : Str) : oNotIn (.str s) (.lst [.str "b", .str "g", .str "r"]) = some (.p (.bl (!isLet s "bgr"))) := by
  have e : inB (.str s) (.lst [.str "b", .str "g", .str "r"]) = some (L2.inV (.str s) [.str "b", .str "g", .str "r"]) := rfl
  unfold oNotIn
  rw [e]
  have k : L2.inV (.str s) [.str "b", .str "g", .str "r"] = isLet s "bgr" := by
    rw [Bool.eq_iff_iff]
    constructor
    · intro h
      simp only [L2.inV, L2.eqV, List.any_cons, List.any_nil, Bool.or_false, Bool.or_eq_true, decide_eq_true_eq, beq_iff_eq] at h
      rcases h with h | h | h
      · rw [← h, str_b]; exact isLet_bgr (by rw [cs_bgr]; decide)
      · rw [← h, str_g]; exact isLet_bgr (by rw [cs_bgr]; decide)
      · rw [← h, str_r]; exact isLet_bgr (by rw [cs_bgr]; decide)
    · intro h
      obtain ⟨c, rfl, hc⟩ := isLet_len h
      have hc : c ∈ cs "bgr" := hc
      rw [cs_bgr] at hc
      simp only [L2.inV, L2.eqV, List.any_cons, List.any_nil, Bool.or_false, Bool.or_eq_true, decide_eq_true_eq, beq_iff_eq]
      simp only [List.mem_cons, List.not_mem_nil, or_false] at hc
      rcases hc with rfl | rfl | rfl
      · exact .inl str_b
      · exact .inr (.inl str_g)
      · exact .inr (.inr str_r)
  rw [k]; rfl
theorem filt_nil (g : P → Bool) : ∀ ps : List P, (ps.filterMap fun p => if g p = true then none else some p).isEmpty = ps.all g
  | [] => rfl
  | p :: ps => by
    rw [List.filterMap_cons, List.all_cons]
    cases h : g p with
    | true => simpa using filt_nil g ps
    | false => rfl
theorem filt_mem {g : P → Bool} {ps : List P} {p : P} (h : p ∈ ps.filterMap fun p => if g p = true then none else some p) : p ∈ ps := by
  obtain ⟨q, h1, h2⟩ := List.mem_filterMap.mp h
  split at h2
  · cases h2
  · cases h2; exact h1
theorem peq_nil (L : List P) : peq (.lst L) (.lst []) = L.isEmpty := by
  unfold peq
  rw [pd, pd]
  cases L with
  | nil => simp only [pdL, PyData.eqv, PyData.eqvAll]; rfl
  | cons p L => simp only [pdL, PyData.eqv, PyData.eqvAll]; rfl
theorem dat_lst {L : List P} (h : datLB L 59 = true) : datB (.lst L) 60 = true := by
  rw [datB, h]; rfl
theorem eq_nil {L : List P} (h : datLB L 59 = true) : oEq (.lst L) (.lst []) = some (.p (.bl L.isEmpty)) := by
  rw [oEq_dat (dat_lst h) (dat_lst rfl), peq_nil]
theorem ne_nil {L : List P} (h : datLB L 59 = true) : oNe (.lst L) (.lst []) = some (.p (.bl (!L.isEmpty))) := by
  rw [oNe_dat (dat_lst h) (dat_lst rfl), peq_nil]
theorem VB.datL {t n : Nat} {L : List P} (hn : n ≤ 59) (h : ∀ p ∈ L, VB t n p) : datLB L 59 = true := datLB_of fun p hp => ((h p hp).mono (Nat.le_refl _) hn).dat
def bGd : EvS := (sSeq (sIf (bOr (bNot (bTru (eIsi "tuple" (eVar 1)))) (bOr (bOf (eBin oNe (eCB cLen (aCons (eVar 1) aNil)) (eC (.int 2)))) (bNot (bTru (eCall 3 F__law_int (aCons (eBin oIx (eVar 1) (eC (.int 1))) (aCons (eC (.int 1)) (aCons (eBin oPow (eC (.int 10)) (eC (.int 30))) aNil)))))))) (sSeq (sRet (eC (.bl false)))
    sNil) sNil)
    (sSeq (sIf (bOr (bNot (bTru (eIsi "str" (eBin oIx (eVar 1) (eC (.int 0)))))) (bOf (eBin oNotIn (eBin oIx (eVar 1) (eC (.int 0))) (eLst (aCons (eC (.str "b")) (aCons (eC (.str "g")) (aCons (eC (.str "r")) aNil))))))) (sSeq (sRet (eC (.bl false)))
    sNil) sNil)
    sNil))
theorem law_int_eq : F__law_int = F_is_integer := rfl
local macro_rules
  | `(tactic| infer_instance) => `(tactic| first
    | with_reducible exact nil_ok
    | with_reducible exact cst_ok
    | with_reducible exact nil_s
    | with_reducible exact raise_ok
    | with_reducible exact x_val
    | with_reducible exact x_valn
    | with_reducible exact x_vall
    | with_reducible exact get_p
    | with_reducible exact get_n
    | (with_reducible apply getl_); first | with_reducible assumption | infer_instance
    | (with_reducible apply var_ok); first | with_reducible assumption | rfl
    | with_reducible exact getL0
    | with_reducible exact sNone_ok
    | (with_reducible apply sSome_ok) <;> infer_instance
    | (with_reducible apply eSl_ok) <;> infer_instance
    | (with_reducible apply rng_ok) <;> infer_instance
    | (with_reducible apply iof_str) <;> infer_instance
    | (with_reducible apply iof_nw) <;> infer_instance
    | (with_reducible apply iof_lst) <;> infer_instance
    | (with_reducible apply iof_tup) <;> infer_instance
    | with_reducible exact allP0
    | (with_reducible apply getLc) <;> infer_instance
    | (with_reducible apply allPc) <;> infer_instance
    | (with_reducible apply cons_v) <;> infer_instance
    | (with_reducible apply seq_nx) <;> infer_instance
    | (with_reducible apply seq_rt) <;> infer_instance
    | (with_reducible apply seq_er) <;> infer_instance
    | (with_reducible apply set_v) <;> infer_instance
    | (with_reducible apply setM_ok') <;> infer_instance
    | (with_reducible apply ret_ok) <;> infer_instance
    | (with_reducible apply exp_ok) <;> infer_instance
    | (with_reducible apply exp_er) <;> infer_instance
    | (with_reducible apply if_tt) <;> infer_instance
    | (with_reducible apply if_ff) <;> infer_instance
    | (with_reducible apply bof_ok) <;> infer_instance
    | (with_reducible apply btru_ok) <;> infer_instance
    | (with_reducible apply bnot_t) <;> infer_instance
    | (with_reducible apply bnot_f) <;> infer_instance
    | (with_reducible apply band_tt) <;> infer_instance
    | (with_reducible apply band_f) <;> infer_instance
    | (with_reducible apply bor_t) <;> infer_instance
    | (with_reducible apply bor_ff) <;> infer_instance
    | (with_reducible apply and_tt) <;> infer_instance
    | (with_reducible apply and_ff) <;> infer_instance
    | (with_reducible apply ife_tt) <;> infer_instance
    | (with_reducible apply ife_ff) <;> infer_instance
    | (with_reducible apply not_t) <;> infer_instance
    | (with_reducible apply not_f) <;> infer_instance
    | (with_reducible apply neg_ok) <;> infer_instance
    | (with_reducible apply isi_ok) <;> infer_instance
    | (with_reducible apply chain_t) <;> infer_instance
    | (with_reducible apply chain_f) <;> infer_instance
    | (with_reducible apply bin_ok) <;> infer_instance
    | (with_reducible apply callB_ok) <;> infer_instance
    | (with_reducible apply mt_ok) <;> infer_instance
    | (with_reducible apply call_ok) <;> infer_instance
    | (with_reducible apply call_er) <;> infer_instance
    | (with_reducible apply word_er) <;> infer_instance
    | (with_reducible apply lst_okN) <;> infer_instance
    | (with_reducible apply tup_okN) <;> infer_instance
    | (with_reducible apply par_ok) <;> infer_instance
    | with_reducible assumption
    | ((with_reducible apply lt_t); omega)
    | ((with_reducible apply lt_f); omega)
    | ((with_reducible apply le_t); omega)
    | ((with_reducible apply le_f); omega)
    | ((with_reducible apply gt_t); omega)
    | ((with_reducible apply gt_f); omega)
    | ((with_reducible apply ge_t); omega)
    | ((with_reducible apply ge_f); omega)
    | ((with_reducible apply eq_t); omega)
    | ((with_reducible apply eq_f); omega)
    | ((with_reducible apply ne_t); omega)
    | ((with_reducible apply ne_f); omega)
    | ((with_reducible apply o_mod_i); omega)
    | (with_reducible apply mul_small_l) <;> omega
    | (with_reducible apply mul_small_r) <;> omega
    | with_reducible exact isi1 | with_reducible exact isi2 | with_reducible exact isi3 | with_reducible exact isi4 | with_reducible exact isi5 | with_reducible exact isi6
    | ((with_reducible apply Nat.le_of_ble_eq_true); rfl)
    | rfl)

section
variable {t n : Nat} {v p r s : P} {l : Str} {M : Sto} {x0 x1 x3 x4 : Option D}
theorem bG_no {ty : String} (h1 : p.ty = some ty) (h : isiB ty "tuple" = false) : bGd [x0, some (.p p)] M = .ok (.rt (.p (.bl false))) M := by
  have q : P.tru (.bl false) = some false := rfl
  unfold bGd
  exact seq_rt (if_tt (M1 := M) (bor_t (bnot_t (by infer_instance))) (by infer_instance))
theorem letB_no (h : ∀ s, p ≠ .str s) : letB l p = false := by
  cases p <;> first | rfl | exact absurd rfl (h _)
theorem bG_ok (hp : VB t n p) (ht : t ≤ 900000) : (stB p = true → bGd [x0, some (.p p)] M = .ok (.nx [x0, some (.p p)]) M) ∧ (stB p = false → bGd [x0, some (.p p)] M = .ok (.rt (.p (.bl false))) M) := by
  have q : P.tru (.bl false) = some false := rfl
  have q2 : P.tru (.bl true) = some true := rfl
  have q1 : isiB "tuple" "tuple" = true := by decide
  have q4 : isiB "str" "str" = true := by decide
  have no : ∀ {ty : String}, p.ty = some ty → isiB ty "tuple" = false → stB p = false → (stB p = true → bGd [x0, some (.p p)] M = .ok (.nx [x0, some (.p p)]) M) ∧ (stB p = false → bGd [x0, some (.p p)] M = .ok (.rt (.p (.bl false))) M) :=
    fun h1 h2 h3 => ⟨fun z => (by rw [h3] at z; cases z), fun _ => bG_no h1 h2⟩
  cases p with
  | tup ps =>
    clear no
    obtain ⟨h1, m, rfl, h2⟩ := hp.tup_
    have q3 : P.ty (.tup ps) = some "tuple" := rfl
    have el : cLen [.tup ps] = some (.p (.int (ps.length : Int))) := rfl
    by_cases hl : ps.length = 2
    · obtain ⟨a, b, rfl⟩ := len2 hl
      have hs : stB (.tup [a, b]) = (letB "bgr" a && intOk b 1 GRT) := rfl
      rw [hs]
      have e2 : F__law_int [.p b, .p (.int 1), .p (.int GRT)] M = .ok (.p (.bl (intOk b 1 GRT))) M := by rw [law_int_eq]; exact is_integer_any (h2 b (by simp)).good
      have i0 : oIx (.tup [a, b]) (.int 0) = some (.p a) := oIx0
      have i1 : oIx (.tup [a, b]) (.int 1) = some (.p b) := oIx1
      have n2 : oNe (.int (([a, b] : List P).length : Int)) (.int 2) = some (.p (.bl false)) := ne_f rfl
      have p3 := p30
      unfold bGd
      cases hb : intOk b 1 GRT with
      | false =>
        rw [hb] at e2
        rw [Bool.and_false]
        exact ⟨fun z => (by cases z), fun _ => seq_rt (if_tt (M1 := M) (bor_ff (M1 := M) (bnot_f (by infer_instance)) (bor_ff (M1 := M) (by infer_instance) (bnot_t (by infer_instance)))) (by infer_instance))⟩
      | true =>
        rw [hb] at e2
        rw [Bool.and_true]
        have e3 : sIf (bOr (bNot (bTru (eIsi "tuple" (eVar 1)))) (bOr (bOf (eBin oNe (eCB cLen (aCons (eVar 1) aNil)) (eC (.int 2)))) (bNot (bTru (eCall 3 F__law_int (aCons (eBin oIx (eVar 1) (eC (.int 1))) (aCons (eC (.int 1)) (aCons (eBin oPow (eC (.int 10)) (eC (.int 30))) aNil)))))))) (sSeq (sRet (eC (.bl false)))
            sNil) sNil [x0, some (.p (.tup [a, b]))] M = .ok (.nx [x0, some (.p (.tup [a, b]))]) M :=
          if_ff (M1 := M) (bor_ff (M1 := M) (bnot_f (by infer_instance)) (bor_ff (M1 := M) (by infer_instance) (bnot_f (by infer_instance)))) nil_s
        have ha := h2 a (by simp)
        have no : ∀ {ty : String}, a.ty = some ty → isiB ty "str" = false → letB "bgr" a = false → (letB "bgr" a = true → bGd [x0, some (.p (.tup [a, b]))] M = .ok (.nx [x0, some (.p (.tup [a, b]))]) M) ∧ (letB "bgr" a = false → bGd [x0, some (.p (.tup [a, b]))] M = .ok (.rt (.p (.bl false))) M) :=
          fun h1 h2 h3 => ⟨fun z => (by rw [h3] at z; cases z), fun _ => by
            unfold bGd
            exact seq_nx e3 (seq_rt (if_tt (M1 := M) (bor_t (bnot_t (by infer_instance))) (by infer_instance)))⟩
        cases a with
        | str s =>
          have q5 : P.ty (.str s) = some "str" := rfl
          have k := bgr_in s
          have tl : eLst (aCons (eC (.str "b")) (aCons (eC (.str "g")) (aCons (eC (.str "r")) aNil))) [x0, some (.p (.tup [.str s, b]))] M = .ok (.nw [.str "b", .str "g", .str "r"]) M := lst_okN (M1 := M) (ds := [.p (.str "b"), .p (.str "g"), .p (.str "r")]) (by infer_instance) rfl (by decide)
          have hq : letB "bgr" (.str s) = isLet s "bgr" := rfl
          rw [hq]
          constructor
          · intro z
            rw [z] at k
            have k : oNotIn (.str s) (.lst [.str "b", .str "g", .str "r"]) = some (.p (.bl false)) := k
            exact seq_nx e3 (seq_nx (if_ff (M1 := M) (bor_ff (M1 := M) (bnot_f (by infer_instance)) (by infer_instance)) nil_s) nil_s)
          · intro z
            rw [z] at k
            have k : oNotIn (.str s) (.lst [.str "b", .str "g", .str "r"]) = some (.p (.bl true)) := k
            exact seq_nx e3 (seq_rt (if_tt (M1 := M) (bor_ff (M1 := M) (bnot_f (by infer_instance)) (by infer_instance)) (by infer_instance)))
        | non => exact no rfl (by decide) rfl
        | bl _ => exact no rfl (by decide) rfl
        | int _ => exact no rfl (by decide) rfl
        | tup _ => exact no rfl (by decide) rfl
        | lst _ => exact no rfl (by decide) rfl
        | fn _ => cases ha.good
        | scr _ => cases ha.good
        | adr _ => cases ha.good
    · have hs : stB (.tup ps) = false := by
        unfold stB
        split
        · rename_i a b e
          exact absurd (by cases e; rfl) hl
        · rfl
      rw [hs]
      have n2 : oNe (.int (ps.length : Int)) (.int 2) = some (.p (.bl true)) := ne_t (by omega)
      unfold bGd
      exact ⟨fun z => (by cases z), fun _ => seq_rt (if_tt (M1 := M) (bor_ff (M1 := M) (bnot_f (by infer_instance)) (bor_t (by infer_instance))) (by infer_instance))⟩
  | non => exact no rfl (by decide) rfl
  | bl _ => exact no rfl (by decide) rfl
  | int _ => exact no rfl (by decide) rfl
  | str _ => exact no rfl (by decide) rfl
  | lst _ => exact no rfl (by decide) rfl
  | fn _ => cases hp.good
  | scr _ => cases hp.good
  | adr _ => cases hp.good
theorem good_no {ty : String} (h1 : v.ty = some ty) (h : isiB ty "tuple" = false) : F__law_good_machine [.p v] M = .ok (.p (.bl false)) M := by
  have q : P.tru (.bl false) = some false := rfl
  unfold F__law_good_machine; rw [fnB1]; refine lv_p ?_; unfold b__law_good_machine
  exact seq_rt (if_tt (M1 := M) (bor_t (bnot_t (by infer_instance))) (by infer_instance))
def bG2 : EvS := (sSeq (sIf (bOr (bNot (bOf (eChain oLe oLe (eC (.int 1)) (eCB cLen (aCons (eBin oIx (eVar 0) (eC (.int 0))) aNil)) (eC (.int 6))))) (bOr (bNot (bTru (eIsi "tuple" (eBin oIx (eVar 0) (eC (.int 1)))))) (bOf (eBin oNotIn (eCB cLen (aCons (eBin oIx (eVar 0) (eC (.int 1))) aNil)) (eLst (aCons (eC (.int 2)) (aCons (eC (.int 3)) aNil))))))) (sSeq (sRet (eC (.bl false)))
    sNil) sNil)
    (sSeq (sFor (.nm 1) (iOf (eBin oIx (eVar 0) (eC (.int 0)))) bGd)
    (sSeq (sRet (eBin oEq (eLc (.nm 1) [1] (iOf (eBin oIx (eVar 0) (eC (.int 1)))) (bNot (bTru (eCall 3 F__law_int (aCons (eVar 1) (aCons (eC (.int 0)) (aCons (eC (.int 9)) aNil)))))) (eVar 1)) (eLst aNil)))
    sNil)))
theorem bG2_ok {rb : List P} (hr : VB t n (.tup rb)) (hs : VB t n s) (ht : t ≤ 900000) (hn : n ≤ 50) : bG2 [some (.p (.tup [.tup rb, s])), none] M = .ok (.rt (.p (.bl (isM (.tup [.tup rb, s]))))) M := by
  have q : P.tru (.bl false) = some false := rfl
  have q2 : P.tru (.bl true) = some true := rfl
  have q1 : isiB "tuple" "tuple" = true := by decide
  have q3 : P.ty (.tup rb) = some "tuple" := rfl
  have el : cLen [.tup rb] = some (.p (.int (rb.length : Int))) := rfl
  have i0 : oIx (.tup [.tup rb, s]) (.int 0) = some (.p (.tup rb)) := oIx0
  have i1 : oIx (.tup [.tup rb, s]) (.int 1) = some (.p s) := oIx1
  obtain ⟨hl, m, rfl, hm⟩ := hr.tup_
  have hu : isM (.tup [.tup rb, s]) = ((decide (1 ≤ rb.length) && decide (rb.length ≤ 6)) && (rb.all stB && stepsB s)) := rfl
  rw [hu]
  unfold bG2
  by_cases h1 : 1 ≤ rb.length
  · by_cases h6 : rb.length ≤ 6
    · rw [decide_eq_true h1, decide_eq_true h6, Bool.true_and, Bool.true_and]
      have no : ∀ {ty : String}, s.ty = some ty → isiB ty "tuple" = false → stepsB s = false → bG2 [some (.p (.tup [.tup rb, s])), none] M = .ok (.rt (.p (.bl (rb.all stB && stepsB s)))) M := fun {ty} h1 h2 h3 => by
        rw [h3, Bool.and_false]
        unfold bG2
        exact seq_rt (if_tt (M1 := M) (bor_ff (M1 := M) (bnot_f (by infer_instance)) (bor_t (bnot_t (by infer_instance)))) (by infer_instance))
      cases s with
      | tup st =>
        clear no
        obtain ⟨hl2, m2, e2, hm2⟩ := hs.tup_
        have q4 : P.ty (.tup st) = some "tuple" := rfl
        have el2 : cLen [.tup st] = some (.p (.int (st.length : Int))) := rfl
        have n2 := not23l st.length
        have hv : stepsB (.tup st) = ((decide (st.length = 2) || decide (st.length = 3)) && st.all digB) := rfl
        rw [hv]
        have tl : eLst (aCons (eC (.int 2)) (aCons (eC (.int 3)) aNil)) [some (.p (.tup [.tup rb, .tup st])), none] M = .ok (.nw [.int 2, .int 3]) M := lst_okN (M1 := M) (ds := [.p (.int 2), .p (.int 3)]) (by infer_instance) rfl (by decide)
        generalize (decide (st.length = 2) || decide (st.length = 3)) = b at n2
        cases b with
        | false =>
          have n2 : oNotIn (.int (st.length : Int)) (.lst [.int 2, .int 3]) = some (.p (.bl true)) := n2
          rw [Bool.false_and, Bool.and_false]
          exact seq_rt (if_tt (M1 := M) (bor_ff (M1 := M) (bnot_f (by infer_instance)) (bor_ff (M1 := M) (bnot_f (by infer_instance)) (by infer_instance))) (by infer_instance))
        | true =>
          have n2 : oNotIn (.int (st.length : Int)) (.lst [.int 2, .int 3]) = some (.p (.bl false)) := n2
          rw [Bool.true_and]
          refine seq_nx (M1 := M) (if_ff (M1 := M) (bor_ff (M1 := M) (bnot_f (by infer_instance)) (bor_ff (M1 := M) (bnot_f (by infer_instance)) (by infer_instance))) nil_s) ?_
          obtain ⟨f1, f2⟩ := forL_chk (b := bGd) (t := .nm 1) (M := M) stB (fun σ => ∃ x, σ = [some (.p (.tup [.tup rb, .tup st])), x]) (.p (.bl false)) rb [some (.p (.tup [.tup rb, .tup st])), none] ⟨_, rfl⟩ (by
            rintro p hp σ ⟨x, rfl⟩
            obtain ⟨g1, g2⟩ := bG_ok (x0 := some (.p (.tup [.tup rb, .tup st]))) (M := M) (hm p hp) ht
            exact ⟨_, x_nm, fun z => ⟨_, g1 z, _, rfl⟩, g2⟩)
          have hi : iOf (eBin oIx (eVar 0) (eC (.int 0))) [some (.p (.tup [.tup rb, .tup st])), none] M = .ok rb M := iof_tup (by infer_instance)
          cases hb : rb.all stB with
          | false =>
            rw [Bool.false_and]
            exact seq_rt (Eq.trans (for_ok hi) (f2 hb))
          | true =>
            rw [Bool.true_and]
            obtain ⟨σ', e5, x, rfl⟩ := f1 hb
            refine seq_nx (Eq.trans (for_ok hi) e5) ?_
            have e6 : eLc (.nm 1) [1] (iOf (eBin oIx (eVar 0) (eC (.int 1)))) (bNot (bTru (eCall 3 F__law_int (aCons (eVar 1) (aCons (eC (.int 0)) (aCons (eC (.int 9)) aNil)))))) (eVar 1) [some (.p (.tup [.tup rb, .tup st])), x] M = .ok (.nw (st.filterMap fun p => if digB p = true then none else some p)) M := by
              refine eLc_pure (ps := st) (fun p => if digB p = true then none else some p) (iof_tup (by infer_instance)) rfl (fun p hp => ⟨_, x_nm, fun M' => ?_⟩) (c60 ht hl2)
              have e7 : F__law_int [.p p, .p (.int 0), .p (.int 9)] M' = .ok (.p (.bl (digB p))) M' := by rw [law_int_eq]; exact is_integer_any (hm2 p hp).good
              constructor
              · cases hd : digB p with
                | true =>
                  rw [hd] at e7
                  exact bnot_f (btru_ok (call_ok (n := 3) (M1 := M') (cons_v (var_ok rfl) x_val (cons_v cst_ok x_val (cons_v cst_ok x_val nil_ok))) rfl e7) get_p rfl)
                | false =>
                  rw [hd] at e7
                  exact bnot_t (btru_ok (call_ok (n := 3) (M1 := M') (cons_v (var_ok rfl) x_val (cons_v cst_ok x_val (cons_v cst_ok x_val nil_ok))) rfl e7) get_p rfl)
              · intro r hr
                refine ⟨.p p, var_ok rfl, ?_⟩
                split at hr
                · cases hr
                · cases hr; rfl
            have e8 := eq_nil (L := st.filterMap fun p => if digB p = true then none else some p) (VB.datL (t := t) (n := m2) (by omega) fun p hp => hm2 p (filt_mem hp))
            rw [filt_nil] at e8
            have e9 : eLst aNil [some (.p (.tup [.tup rb, .tup st])), x] M = .ok (.nw []) M := lst_okN (M1 := M) (ds := []) nil_ok rfl (by decide)
            exact seq_rt (ret_ok (bin_ok e6 e9 get_n get_n e8))
      | non => exact no rfl (by decide) rfl
      | bl _ => exact no rfl (by decide) rfl
      | int _ => exact no rfl (by decide) rfl
      | str _ => exact no rfl (by decide) rfl
      | lst _ => exact no rfl (by decide) rfl
      | fn _ => cases hs.good
      | scr _ => cases hs.good
      | adr _ => cases hs.good
    · rw [decide_eq_false h6, Bool.and_false, Bool.false_and]
      exact seq_rt (if_tt (M1 := M) (bor_t (bnot_t (by infer_instance))) (by infer_instance))
  · rw [decide_eq_false h1, Bool.false_and, Bool.false_and]
    exact seq_rt (if_tt (M1 := M) (bor_t (bnot_t (by infer_instance))) (by infer_instance))
theorem good_any (h : VB t n v) (ht : t ≤ 900000) (hn : n ≤ 50) : F__law_good_machine [.p v] M = .ok (.p (.bl (isM v))) M := by
  cases v with
  | tup ps =>
    obtain ⟨h1, m, rfl, h2⟩ := h.tup_
    have q : P.tru (.bl false) = some false := rfl
    have q2 : P.tru (.bl true) = some true := rfl
    have q1 : isiB "tuple" "tuple" = true := by decide
    have q3 : P.ty (.tup ps) = some "tuple" := rfl
    have el : cLen [.tup ps] = some (.p (.int (ps.length : Int))) := rfl
    unfold F__law_good_machine; rw [fnB1]; refine lv_p ?_; unfold b__law_good_machine
    by_cases hl : ps.length = 2
    · obtain ⟨a, b, rfl⟩ := len2 hl
      have n2 : oNe (.int (([a, b] : List P).length : Int)) (.int 2) = some (.p (.bl false)) := ne_f rfl
      have i0 : oIx (.tup [a, b]) (.int 0) = some (.p a) := oIx0
      have ha := h2 a (by simp)
      have hb := h2 b (by simp)
      have no : ∀ {ty : String}, a.ty = some ty → isiB ty "tuple" = false → (∀ rb, a ≠ .tup rb) → b__law_good_machine [some (.p (.tup [a, b])), none] M = .ok (.rt (.p (.bl (isM (.tup [a, b]))))) M := fun h1 h2 h3 => by
        rw [isM_r h3]
        unfold b__law_good_machine
        exact seq_rt (if_tt (M1 := M) (bor_ff (M1 := M) (bnot_f (by infer_instance)) (bor_ff (M1 := M) (by infer_instance) (bnot_t (by infer_instance)))) (by infer_instance))
      cases a with
      | tup rb =>
        have q4 : P.ty (.tup rb) = some "tuple" := rfl
        refine seq_nx (M1 := M) (if_ff (M1 := M) (bor_ff (M1 := M) (bnot_f (by infer_instance)) (bor_ff (M1 := M) (by infer_instance) (bnot_f (by infer_instance)))) nil_s) ?_
        exact bG2_ok ha hb ht (by omega)
      | non => exact no rfl (by decide) nofun
      | bl _ => exact no rfl (by decide) nofun
      | int _ => exact no rfl (by decide) nofun
      | str _ => exact no rfl (by decide) nofun
      | lst _ => exact no rfl (by decide) nofun
      | fn _ => cases ha.good
      | scr _ => cases ha.good
      | adr _ => cases ha.good
    · rw [isM_l hl]
      have n2 : oNe (.int (ps.length : Int)) (.int 2) = some (.p (.bl true)) := ne_t (by omega)
      exact seq_rt (if_tt (M1 := M) (bor_ff (M1 := M) (bnot_f (by infer_instance)) (bor_t (by infer_instance))) (by infer_instance))
  | non => exact good_no rfl (by decide)
  | bl _ => exact good_no rfl (by decide)
  | int _ => exact good_no rfl (by decide)
  | str _ => exact good_no rfl (by decide)
  | lst _ => exact good_no rfl (by decide)
  | fn _ => cases h.good
  | scr _ => cases h.good
  | adr _ => cases h.good
end
end Ev


set_option linter.all false
set_option maxRecDepth 100000
set_option maxHeartbeats 400000
/-! k01: a value of any kind. -/
namespace Ev
open PySem
def atomB (t : Nat) : P → Bool
  | .non => true
  | .bl _ => true
  | .int i => decide (i.natAbs ≤ (t + 1) * KB)
  | .str s => sOk s && decide ((cs s).length ≤ 60 + t)
  | _ => false
def vbB (t : Nat) : Nat → P → Bool
  | 0, p => atomB t p
  | n + 1, p => match p with
    | .tup ps => decide (ps.length ≤ 60 + t) && ps.all (vbB t n)
    | .lst ps => decide (ps.length ≤ 60 + t) && ps.all (vbB t n)
    | p => atomB t p
theorem atom_of {t : Nat} {p : P} (h : atomB t p = true) : atomV t p := by
  cases p with
  | int i =>
    have h : decide (i.natAbs ≤ (t + 1) * KB) = true := h
    exact (of_decide_eq_true h : i.natAbs ≤ (t + 1) * KB)
  | str s =>
    have h : (sOk s && decide ((cs s).length ≤ 60 + t)) = true := h
    rw [Bool.and_eq_true] at h
    exact ⟨h.1, (of_decide_eq_true h.2 : (cs s).length ≤ 60 + t)⟩
  | non => trivial
  | bl _ => trivial
  | tup _ => cases h
  | lst _ => cases h
  | fn _ => cases h
  | scr _ => cases h
  | adr _ => cases h
theorem VB_of {t : Nat} : ∀ {n : Nat} {p : P}, vbB t n p = true → VB t n p
  | 0, p, h => atom_of h
  | n + 1, p, h => by
    cases p with
    | tup ps =>
      have h : (decide (ps.length ≤ 60 + t) && ps.all (vbB t n)) = true := h
      rw [Bool.and_eq_true, List.all_eq_true] at h
      exact VB.tup (of_decide_eq_true h.1) fun q hq => VB_of (h.2 q hq)
    | lst ps =>
      have h : (decide (ps.length ≤ 60 + t) && ps.all (vbB t n)) = true := h
      rw [Bool.and_eq_true, List.all_eq_true] at h
      exact VB.lst (of_decide_eq_true h.1) fun q hq => VB_of (h.2 q hq)
    | non => exact VB.non
    | bl _ => exact VB.bl
    | int i =>
      have h : decide (i.natAbs ≤ (t + 1) * KB) = true := h
      exact VB.int (of_decide_eq_true h)
    | str s => exact atom_of (p := .str s) h
    | fn _ => cases h
    | scr _ => cases h
    | adr _ => cases h
def some1 : List P := [.non, .bl true, .bl false, .int 0, .int 1, .int 2, .int 9, .int 10, .int (-1), .int GRT, .int (GRT + 1), .str "", .str "b", .str "x", .str "xyz", .str "bgr", .str "b1", .tup [], .lst []]
def some2 : List P := [.tup [.str "b", .int 1], .tup [.int 1, .int 2], .tup [.tup [.str "b", .int 2]], .tup [.tup [.tup [.str "b", .int 2]], .tup [.int 1, .int 2]], .tup [.str "w", .int 3], .tup [.tup [.str "r", .int 0]], .str "a", .lst [.int 1], .tup [.int 9, .int 10], .str "."]
def someA : List P := some1 ++ some2
theorem some_all : someA.all (vbB 0 3) = true := by kernel_rfl
theorem some_ok : ∀ q ∈ someA, VB 0 3 q := fun q hq => VB_of ((List.all_eq_true.mp some_all) q hq)
theorem some_len : someA.length = 29 := by rfl
local macro_rules
  | `(tactic| infer_instance) => `(tactic| first
    | with_reducible exact nil_ok
    | with_reducible exact cst_ok
    | with_reducible exact nil_s
    | with_reducible exact raise_ok
    | with_reducible exact x_val
    | with_reducible exact x_valn
    | with_reducible exact x_vall
    | with_reducible exact get_p
    | with_reducible exact get_n
    | (with_reducible apply getl_); first | with_reducible assumption | infer_instance
    | (with_reducible apply var_ok); first | with_reducible assumption | rfl
    | with_reducible exact getL0
    | with_reducible exact sNone_ok
    | (with_reducible apply sSome_ok) <;> infer_instance
    | (with_reducible apply eSl_ok) <;> infer_instance
    | (with_reducible apply rng_ok) <;> infer_instance
    | (with_reducible apply iof_str) <;> infer_instance
    | (with_reducible apply iof_nw) <;> infer_instance
    | (with_reducible apply iof_lst) <;> infer_instance
    | (with_reducible apply iof_tup) <;> infer_instance
    | with_reducible exact allP0
    | (with_reducible apply getLc) <;> infer_instance
    | (with_reducible apply allPc) <;> infer_instance
    | (with_reducible apply cons_v) <;> infer_instance
    | (with_reducible apply seq_nx) <;> infer_instance
    | (with_reducible apply seq_rt) <;> infer_instance
    | (with_reducible apply seq_er) <;> infer_instance
    | (with_reducible apply set_v) <;> infer_instance
    | (with_reducible apply setM_ok') <;> infer_instance
    | (with_reducible apply ret_ok) <;> infer_instance
    | (with_reducible apply exp_ok) <;> infer_instance
    | (with_reducible apply exp_er) <;> infer_instance
    | (with_reducible apply if_tt) <;> infer_instance
    | (with_reducible apply if_ff) <;> infer_instance
    | (with_reducible apply bof_ok) <;> infer_instance
    | (with_reducible apply btru_ok) <;> infer_instance
    | (with_reducible apply bnot_t) <;> infer_instance
    | (with_reducible apply bnot_f) <;> infer_instance
    | (with_reducible apply band_tt) <;> infer_instance
    | (with_reducible apply band_f) <;> infer_instance
    | (with_reducible apply bor_t) <;> infer_instance
    | (with_reducible apply bor_ff) <;> infer_instance
    | (with_reducible apply and_tt) <;> infer_instance
    | (with_reducible apply and_ff) <;> infer_instance
    | (with_reducible apply ife_tt) <;> infer_instance
    | (with_reducible apply ife_ff) <;> infer_instance
    | (with_reducible apply not_t) <;> infer_instance
    | (with_reducible apply not_f) <;> infer_instance
    | (with_reducible apply neg_ok) <;> infer_instance
    | (with_reducible apply isi_ok) <;> infer_instance
    | (with_reducible apply chain_t) <;> infer_instance
    | (with_reducible apply chain_f) <;> infer_instance
    | (with_reducible apply bin_ok) <;> infer_instance
    | (with_reducible apply callB_ok) <;> infer_instance
    | (with_reducible apply mt_ok) <;> infer_instance
    | (with_reducible apply call_ok) <;> infer_instance
    | (with_reducible apply call_er) <;> infer_instance
    | (with_reducible apply word_er) <;> infer_instance
    | (with_reducible apply lst_okN) <;> infer_instance
    | (with_reducible apply tup_okN) <;> infer_instance
    | (with_reducible apply par_ok) <;> infer_instance
    | with_reducible assumption
    | ((with_reducible apply lt_t); omega)
    | ((with_reducible apply lt_f); omega)
    | ((with_reducible apply le_t); omega)
    | ((with_reducible apply le_f); omega)
    | ((with_reducible apply gt_t); omega)
    | ((with_reducible apply gt_f); omega)
    | ((with_reducible apply ge_t); omega)
    | ((with_reducible apply ge_f); omega)
    | ((with_reducible apply eq_t); omega)
    | ((with_reducible apply eq_f); omega)
    | ((with_reducible apply ne_t); omega)
    | ((with_reducible apply ne_f); omega)
    | ((with_reducible apply o_mod_i); omega)
    | (with_reducible apply mul_small_l) <;> omega
    | (with_reducible apply mul_small_r) <;> omega
    | with_reducible exact isi1 | with_reducible exact isi2 | with_reducible exact isi3 | with_reducible exact isi4 | with_reducible exact isi5 | with_reducible exact isi6
    | ((with_reducible apply Nat.le_of_ble_eq_true); rfl)
    | rfl)

theorem add_grt1 : oAdd (.int GRT) (.int 1) = some (.p (.int (GRT + 1))) := rfl
def bAV (F : Fn) : EvS := (sSeq (sIf (bOr (bOf (eBin oEq (eVar 1) (eC (.int 0)))) (bOf (eBin oLt (eCall 2 F__law_unwind (aCons (eVar 0) (aCons (eC (.int 9)) aNil))) (eC (.int 6))))) (sSeq (sRet (eCall 2 F__law_pick (aCons (eVar 0) (aCons (eVar 2) aNil))))
    sNil) sNil)
    (sSeq (sSet 3 (eLc (.nm 4) [4] (iRange1 (aCons (eCall 2 F__law_unwind (aCons (eVar 0) (aCons (eC (.int 4)) aNil))) aNil)) bYes (eCall 2 F (aCons (eVar 0) (aCons (eBin oSub (eVar 1) (eC (.int 1))) aNil)))))
    (sSeq (sRet (eIf (bOf (eBin oEq (eCall 2 F__law_unwind (aCons (eVar 0) (aCons (eC (.int 3)) aNil))) (eC (.int 0)))) (eVar 3) (eCB cTuple (aCons (eVar 3) aNil))))
    sNil)))
theorem av_e1 {σ : Fr} {M : Sto} : eLst (aCons (eC (.non)) (aCons (eC (.bl true)) (aCons (eC (.bl false)) (aCons (eC (.int 0)) (aCons (eC (.int 1)) (aCons (eC (.int 2)) (aCons (eC (.int 9)) (aCons (eC (.int 10)) (aCons (eNeg (eC (.int 1))) (aCons (eBin oPow (eC (.int 10)) (eC (.int 30))) (aCons (eBin oAdd (eBin oPow (eC (.int 10)) (eC (.int 30))) (eC (.int 1))) (aCons (eC (.str "")) (aCons (eC (.str "b")) (aCons (eC (.str "x")) (aCons (eC (.str "xyz")) (aCons (eC (.str "bgr")) (aCons (eC (.str "b1")) (aCons (eTup aNil) (aCons (eLst aNil) aNil))))))))))))))))))) σ M = .ok (.nw some1) M := by
  have p3 := p30
  have p4 := add_grt1
  have t0 : eTup aNil σ M = .ok (.p (.tup [])) M := tup_okN (M1 := M) (ds := []) nil_ok rfl (by decide)
  have t1 : eLst aNil σ M = .ok (.nw []) M := lst_okN (M1 := M) (ds := []) nil_ok rfl (by decide)
  unfold some1
  infer_instance
theorem av_e2 {σ : Fr} {M : Sto} : eLst (aCons (eTup (aCons (eC (.str "b")) (aCons (eC (.int 1)) aNil))) (aCons (eTup (aCons (eC (.int 1)) (aCons (eC (.int 2)) aNil))) (aCons (eTup (aCons (eTup (aCons (eC (.str "b")) (aCons (eC (.int 2)) aNil))) aNil)) (aCons (eTup (aCons (eTup (aCons (eTup (aCons (eC (.str "b")) (aCons (eC (.int 2)) aNil))) aNil)) (aCons (eTup (aCons (eC (.int 1)) (aCons (eC (.int 2)) aNil))) aNil))) (aCons (eTup (aCons (eC (.str "w")) (aCons (eC (.int 3)) aNil))) (aCons (eTup (aCons (eTup (aCons (eC (.str "r")) (aCons (eC (.int 0)) aNil))) aNil)) (aCons (eC (.str "a")) (aCons (eLst (aCons (eC (.int 1)) aNil)) (aCons (eTup (aCons (eC (.int 9)) (aCons (eC (.int 10)) aNil))) (aCons (eC (.str ".")) aNil)))))))))) σ M = .ok (.nw some2) M := by
  unfold some2
  infer_instance
theorem av_head {F : Fn} {k : Nat} {d : Int} {M : Sto} : b__law_any_value F [some (.loc k), some (.p (.int d)), none, none, none] M = bAV F [some (.loc k), some (.p (.int d)), some (.p (.lst someA)), none, none] M := by
  have a : oAdd (.lst some1) (.lst some2) = some (.nw someA) := oAdd_l (lim_n (Nat.le_of_ble_eq_true rfl))
  unfold b__law_any_value
  refine seq_nx (M1 := M) (set_v av_e1 x_valn) ?_
  exact seq_nx (M1 := M) (set_v (bin_ok (var_ok rfl) av_e2 get_p get_n a) x_valn) rfl
theorem sp_any_value {k : Nat} : ∀ (d n : Nat), d < n → ∀ {M : Sto}, SpAt M k → ∃ v M', F__law_any_value_ n [.loc k, .p (.int (d : Int))] M = .ok (.p v) M' ∧ Spw k M M' ∧ VB 0 (d + 3) v := by
  intro d
  induction d with
  | zero =>
    intro n hn M hs
    obtain ⟨m, rfl⟩ : ∃ m, n = m + 1 := ⟨n - 1, by omega⟩
    obtain ⟨q, M', e, w, hq⟩ := sp_pick (M := M) (d := .p (.lst someA)) hs (.inl rfl) (List.ne_nil_of_length_pos (by rw [some_len]; decide)) (by rw [some_len]; decide)
    refine ⟨q, M', ?_, w, some_ok q hq⟩
    show fnB 5 (b__law_any_value (F__law_any_value_ m)) [.loc k, .p (.int 0)] M = _
    rw [fnB2]
    refine lv_pS ?_ w.len
    refine Eq.trans av_head ?_
    unfold bAV
    exact seq_rt (if_tt (M1 := M) (bor_t (by infer_instance)) (by infer_instance))
  | succ d ih =>
    intro n hn M hs
    obtain ⟨m, rfl⟩ : ∃ m, n = m + 1 := ⟨n - 1, by omega⟩
    have hne : oEq (.int ((d + 1 : Nat) : Int)) (.int 0) = some (.p (.bl false)) := eq_f (by omega)
    obtain ⟨r, M1, e1, w1, r0, r1⟩ := sp_unwind (most := 9) hs (by decide) (by decide +kernel)
    by_cases h6 : r < 6
    · obtain ⟨q, M', e, w, hq⟩ := sp_pick (M := M1) (d := .p (.lst someA)) (w1.at hs) (.inl rfl) (List.ne_nil_of_length_pos (by rw [some_len]; decide)) (by rw [some_len]; decide)
      refine ⟨q, M', ?_, w1.trans w, (some_ok q hq).mono (Nat.le_refl _) (by omega)⟩
      show fnB 5 (b__law_any_value (F__law_any_value_ m)) [.loc k, .p (.int ((d + 1 : Nat) : Int))] M = _
      rw [fnB2]
      refine lv_pS ?_ (w1.trans w).len
      refine Eq.trans av_head ?_
      unfold bAV
      exact seq_rt (if_tt (M1 := M1) (bor_ff (M1 := M) (by infer_instance) (by infer_instance)) (by infer_instance))
    · obtain ⟨r2, M2, e2, w2, r20, r21⟩ := sp_unwind (most := 4) (w1.at hs) (by decide) (by decide +kernel)
      have er2 : r2 = ((r2.toNat : Nat) : Int) := by omega
      have hN2 : r2.toNat < 4 := by omega
      generalize r2.toNat = N2 at er2 hN2
      subst er2
      have hrl2 : (rgs 0 N2).length = N2 := by simp [rgs]
      obtain ⟨qs, M3, e3, w3, n3, g3⟩ := lc_eff (k := k) (x := 4) (M := M1) (M1 := M2) (ps := rgs 0 N2) (σ := [some (.loc k), some (.p (.int ((d + 1 : Nat) : Int))), some (.p (.lst someA)), none, none]) (fi := iRange1 (aCons (eCall 2 F__law_unwind (aCons (eVar 0) (aCons (eC (.int 4)) aNil))) aNil))
        (el := eCall 2 (F__law_any_value_ m) (aCons (eVar 0) (aCons (eBin oSub (eVar 1) (eC (.int 1))) aNil))) (fun q => VB 0 (d + 3) q)
        (rng_ok (n := N2) (by infer_instance) (lim_n (by omega))) (w2.at (w1.at hs)) (by rw [hrl2]; exact lim_n (by omega)) (by
          intro p hp M' hs'
          obtain ⟨v, M5, e5, w5, hv⟩ := ih m (by omega) hs'
          have hsub : oSub (.int ((d + 1 : Nat) : Int)) (.int 1) = some (.p (.int (d : Int))) := by
            rw [o_sub_i, show ((d + 1 : Nat) : Int) - 1 = (d : Int) by omega]
          exact ⟨_, v, M5, call_ok (n := 2) (M1 := M') (cons_v (var_ok rfl) x_vall (cons_v (bin_ok (M1 := M') (M2 := M') (var_ok rfl) cst_ok get_p get_p hsub) x_val nil_ok)) rfl e5, x_val, w5, hv⟩)
      rw [hrl2] at n3
      obtain ⟨r4, M4, e4, w4, r40, r41⟩ := sp_unwind (most := 3) (w3.at (w2.at (w1.at hs))) (by decide) (by decide +kernel)
      have hw := ((w1.trans w2).trans w3).trans w4
      have c1 : sIf (bOr (bOf (eBin oEq (eVar 1) (eC (.int 0)))) (bOf (eBin oLt (eCall 2 F__law_unwind (aCons (eVar 0) (aCons (eC (.int 9)) aNil))) (eC (.int 6))))) (sSeq (sRet (eCall 2 F__law_pick (aCons (eVar 0) (aCons (eVar 2) aNil))))
          sNil) sNil [some (.loc k), some (.p (.int ((d + 1 : Nat) : Int))), some (.p (.lst someA)), none, none] M = .ok (.nx [some (.loc k), some (.p (.int ((d + 1 : Nat) : Int))), some (.p (.lst someA)), none, none]) M1 := if_ff (M1 := M1) (bor_ff (M1 := M) (by infer_instance) (by infer_instance)) nil_s
      have ct : cTuple [.lst qs] = some (.p (.tup qs)) := rfl
      have hl3 : qs.length ≤ 60 + 0 := by omega
      by_cases h0 : r4 = 0
      · refine ⟨.lst qs, M4, ?_, hw, VB.lst hl3 g3⟩
        show fnB 5 (b__law_any_value (F__law_any_value_ m)) [.loc k, .p (.int ((d + 1 : Nat) : Int))] M = _
        rw [fnB2]
        refine lv_pS ?_ hw.len
        refine Eq.trans av_head ?_
        unfold bAV
        refine seq_nx c1 ?_
        refine seq_nx (M1 := M3) (set_v e3 x_valn) ?_
        exact seq_rt (ret_ok (ife_tt (M1 := M4) (by infer_instance) (by infer_instance)))
      · refine ⟨.tup qs, M4, ?_, hw, VB.tup hl3 g3⟩
        show fnB 5 (b__law_any_value (F__law_any_value_ m)) [.loc k, .p (.int ((d + 1 : Nat) : Int))] M = _
        rw [fnB2]
        refine lv_pS ?_ hw.len
        refine Eq.trans av_head ?_
        unfold bAV
        refine seq_nx c1 ?_
        refine seq_nx (M1 := M3) (set_v e3 x_valn) ?_
        exact seq_rt (ret_ok (ife_ff (M1 := M4) (by infer_instance) (by infer_instance)))
end Ev


set_option linter.all false
set_option maxRecDepth 100000
set_option maxHeartbeats 400000
/-! k01: a value with one place otherwise. -/
namespace Ev
open PySem
theorem cutP_drop {ps : List P} {i : Nat} : cutP ps (some (i : Int)) none = ps.drop i := by
  unfold cutP
  rw [HT.sIx_nat, HT.sIx_none]
  by_cases h : i ≤ ps.length
  · rw [Nat.min_eq_left h, List.take_of_length_le (by rw [List.length_drop]; exact Nat.le_refl _)]
  · rw [Nat.min_eq_right (by omega), List.drop_of_length_le (Nat.le_refl _), List.drop_of_length_le (by omega)]; simp
theorem cs_app {a b : Str} : cs (a ++ b) = cs a ++ cs b := by
  show (a.cps ++ b.cps).toList = _
  simp
theorem sOk_iff {s : Str} : sOk s = true ↔ ∀ c ∈ cs s, c < 0x110000 := by
  unfold sOk
  rw [List.all_eq_true]
  constructor
  · intro h c hc; simpa using h c hc
  · intro h c hc; simpa using h c hc
theorem sOk_app {a b : Str} (h : sOk a = true) (h2 : sOk b = true) : sOk (a ++ b) = true := by
  rw [sOk_iff] at *
  intro c hc
  rw [cs_app] at hc
  rcases List.mem_append.mp hc with hc | hc
  · exact h c hc
  · exact h2 c hc
theorem cut_mem {z : Str} {lo hi : Option Int} {c : Nat} (h : c ∈ cs (L2.cutS z lo hi)) : c ∈ cs z := by
  unfold L2.cutS at h
  have h : c ∈ (z.cps.toList.drop (HT.sIx z.length 0 lo)).take (HT.sIx z.length z.length hi - HT.sIx z.length 0 lo) := by simpa using h
  exact List.mem_of_mem_drop (List.mem_of_mem_take h)
theorem cut_len {z : Str} {lo hi : Option Int} : (cs (L2.cutS z lo hi)).length ≤ (cs z).length := by
  have := L2.cutS_length z lo hi
  rw [len_cs, len_cs] at this
  exact this
theorem sOk_cut {z : Str} {lo hi : Option Int} (h : sOk z = true) : sOk (L2.cutS z lo hi) = true := by
  rw [sOk_iff] at *
  exact fun c hc => h c (cut_mem hc)
theorem cs_of (s : String) : cs (Str.ofString s) = s.toList.map Char.toNat := by
  rw [Str.ofString_eq_toList]
theorem sOk_of (s : String) : sOk (Str.ofString s) = true := by
  rw [sOk_iff]
  intro c hc
  rw [cs_of] at hc
  obtain ⟨x, _, rfl⟩ := List.mem_map.mp hc
  have := x.valid
  unfold UInt32.isValidChar Nat.isValidChar at this
  show x.val.toNat < _
  omega
theorem kb_bound {t : Nat} {i : Int} (ht : t ≤ 100) (h : i.natAbs ≤ (t + 1) * KB) : i.natAbs < 10 ^ 34 := by
  have h1 : (t + 1) * KB ≤ 101 * KB := Nat.mul_le_mul_right _ (by omega)
  have h2 : 101 * KB < 10 ^ 34 := by decide +kernel
  exact Nat.lt_of_le_of_lt (Nat.le_trans h h1) h2
theorem repr_len {n : Nat} (h : n < 10 ^ 34) : n.repr.toList.length ≤ 34 := by
  rw [Nat.toList_repr]
  exact (Nat.length_toDigits_le_iff (by decide) (by decide)).mpr h
theorem str_int_len {t : Nat} {i : Int} (ht : t ≤ 100) (h : i.natAbs ≤ (t + 1) * KB) : (cs (Str.ofString (toString i))).length ≤ 40 := by
  have hb := kb_bound ht h
  rw [cs_of, List.length_map]
  cases i with
  | ofNat n =>
    have := repr_len (n := n) hb
    show (Nat.repr n).toList.length ≤ 40
    omega
  | negSucc n =>
    have := repr_len (n := n + 1) hb
    show ("-" ++ Nat.repr (n + 1)).toList.length ≤ 40
    rw [String.toList_append, List.length_append]
    have h1 : "-".toList.length = 1 := by decide +kernel
    omega
theorem c_str_i {t : Nat} {i : Int} (ht : t ≤ 100) (h : i.natAbs ≤ (t + 1) * KB) : cStr [.int i] = some (.p (.str (Str.ofString (toString i)))) := by
  have h2 : (10 : Nat) ^ 34 < 2 ^ 1000 := by decide +kernel
  exact if_pos (Nat.lt_trans (kb_bound ht h) h2)
theorem kb_ge : GRT.natAbs + 2 ≤ KB := by decide +kernel
theorem lv_nS {b : EvS} {σ : Fr} {M M' : Sto} {p : List P} (h : b σ M = .ok (.rt (.nw p)) M') (hl : M'.length = M.length) : leave M.length (b σ M) = .ok (.nw p) M' := by
  rw [h, x_lv_n, ← hl, List.take_length]
theorem oAdd_t {a b : List P} (h : a.length + b.length ≤ lim) : oAdd (.tup a) (.tup b) = some (.p (.tup (a ++ b))) := if_pos h
theorem oAdd_s {a b : Str} (h : (cs a).length + (cs b).length ≤ lim) : oAdd (.str a) (.str b) = some (.p (.str (a ++ b))) := if_pos (by rw [len_cs, len_cs]; exact h)
def strNear (s : Str) : List P := [.str "b", .str "g", .str "w", .str "B", .str (s ++ "x"), .str (L2.cutS s (some 1) none)]
def intNear (i : Int) (z : Bool) (y : Str) : List P := [.int (i + 1), .int (i - 1), .bl (!z), .str y, .int (-i), .int (GRT + i)]
def bNr : EvS := sIf (bTru (eIsi "str" (eVar 1))) (sSeq (sSet 2 (eBin oAdd (eVar 2) (eLst (aCons (eC (.str "b")) (aCons (eC (.str "g")) (aCons (eC (.str "w")) (aCons (eC (.str "B")) (aCons (eBin oAdd (eVar 1) (eC (.str "x"))) (aCons (eSl (eVar 1) (sSome (eC (.int 1))) sNone) aNil)))))))))
    sNil) (sSeq (sIf (bTru (eIsi "int" (eVar 1))) (sSeq (sSet 2 (eBin oAdd (eVar 2) (eLst (aCons (eBin oAdd (eVar 1) (eC (.int 1))) (aCons (eBin oSub (eVar 1) (eC (.int 1))) (aCons (eNot (eVar 1)) (aCons (eCB cStr (aCons (eVar 1) aNil)) (aCons (eNeg (eVar 1)) (aCons (eBin oAdd (eBin oPow (eC (.int 10)) (eC (.int 30))) (eVar 1)) aNil)))))))))
    sNil) sNil)
    sNil)
def bB1 : EvS := (sSeq (sSet 2 (eLst (aCons (eCall 2 F__law_any_value (aCons (eVar 0) (aCons (eC (.int 1)) aNil))) (aCons (eCall 2 F__law_any_value (aCons (eVar 0) (aCons (eC (.int 1)) aNil))) aNil))))
    (sSeq bNr
    (sSeq (sRet (eCall 2 F__law_pick (aCons (eVar 0) (aCons (eVar 2) aNil))))
    sNil)))
local macro_rules
  | `(tactic| infer_instance) => `(tactic| first
    | with_reducible exact nil_ok
    | with_reducible exact cst_ok
    | with_reducible exact nil_s
    | with_reducible exact raise_ok
    | with_reducible exact x_val
    | with_reducible exact x_valn
    | with_reducible exact x_vall
    | with_reducible exact get_p
    | with_reducible exact get_n
    | (with_reducible apply getl_); first | with_reducible assumption | infer_instance
    | (with_reducible apply var_ok); first | with_reducible assumption | rfl
    | with_reducible exact getL0
    | with_reducible exact sNone_ok
    | (with_reducible apply sSome_ok) <;> infer_instance
    | (with_reducible apply eSl_ok) <;> infer_instance
    | (with_reducible apply rng_ok) <;> infer_instance
    | (with_reducible apply iof_str) <;> infer_instance
    | (with_reducible apply iof_nw) <;> infer_instance
    | (with_reducible apply iof_lst) <;> infer_instance
    | (with_reducible apply iof_tup) <;> infer_instance
    | with_reducible exact allP0
    | (with_reducible apply getLc) <;> infer_instance
    | (with_reducible apply allPc) <;> infer_instance
    | (with_reducible apply cons_v) <;> infer_instance
    | (with_reducible apply seq_nx) <;> infer_instance
    | (with_reducible apply seq_rt) <;> infer_instance
    | (with_reducible apply seq_er) <;> infer_instance
    | (with_reducible apply set_v) <;> infer_instance
    | (with_reducible apply setM_ok') <;> infer_instance
    | (with_reducible apply ret_ok) <;> infer_instance
    | (with_reducible apply exp_ok) <;> infer_instance
    | (with_reducible apply exp_er) <;> infer_instance
    | (with_reducible apply if_tt) <;> infer_instance
    | (with_reducible apply if_ff) <;> infer_instance
    | (with_reducible apply bof_ok) <;> infer_instance
    | (with_reducible apply btru_ok) <;> infer_instance
    | (with_reducible apply bnot_t) <;> infer_instance
    | (with_reducible apply bnot_f) <;> infer_instance
    | (with_reducible apply band_tt) <;> infer_instance
    | (with_reducible apply band_f) <;> infer_instance
    | (with_reducible apply bor_t) <;> infer_instance
    | (with_reducible apply bor_ff) <;> infer_instance
    | (with_reducible apply and_tt) <;> infer_instance
    | (with_reducible apply and_ff) <;> infer_instance
    | (with_reducible apply ife_tt) <;> infer_instance
    | (with_reducible apply ife_ff) <;> infer_instance
    | (with_reducible apply not_t) <;> infer_instance
    | (with_reducible apply not_f) <;> infer_instance
    | (with_reducible apply neg_ok) <;> infer_instance
    | (with_reducible apply isi_ok) <;> infer_instance
    | (with_reducible apply chain_t) <;> infer_instance
    | (with_reducible apply chain_f) <;> infer_instance
    | (with_reducible apply bin_ok) <;> infer_instance
    | (with_reducible apply callB_ok) <;> infer_instance
    | (with_reducible apply mt_ok) <;> infer_instance
    | (with_reducible apply call_ok) <;> infer_instance
    | (with_reducible apply call_er) <;> infer_instance
    | (with_reducible apply word_er) <;> infer_instance
    | (with_reducible apply lst_okN) <;> infer_instance
    | (with_reducible apply tup_okN) <;> infer_instance
    | (with_reducible apply par_ok) <;> infer_instance
    | with_reducible assumption
    | ((with_reducible apply lt_t); omega)
    | ((with_reducible apply lt_f); omega)
    | ((with_reducible apply le_t); omega)
    | ((with_reducible apply le_f); omega)
    | ((with_reducible apply gt_t); omega)
    | ((with_reducible apply gt_f); omega)
    | ((with_reducible apply ge_t); omega)
    | ((with_reducible apply ge_f); omega)
    | ((with_reducible apply eq_t); omega)
    | ((with_reducible apply eq_f); omega)
    | ((with_reducible apply ne_t); omega)
    | ((with_reducible apply ne_f); omega)
    | ((with_reducible apply o_mod_i); omega)
    | (with_reducible apply mul_small_l) <;> omega
    | (with_reducible apply mul_small_r) <;> omega
    | with_reducible exact isi1 | with_reducible exact isi2 | with_reducible exact isi3 | with_reducible exact isi4 | with_reducible exact isi5 | with_reducible exact isi6
    | ((with_reducible apply Nat.le_of_ble_eq_true); rfl)
    | rfl)

section
variable {k t m : Nat} {v a b : P} {M : Sto}
theorem str_near {s : Str} (h : VB t m (.str s)) : ∀ q ∈ strNear s, VB (t + 1) (m + 4) q := by
  obtain ⟨h1, h2⟩ := h.str_
  intro q hq
  simp only [strNear, List.mem_cons, List.not_mem_nil, or_false] at hq
  rcases hq with rfl | rfl | rfl | rfl | rfl | rfl
  · exact (VB_of (t := 0) (n := 0) (by kernel_rfl)).mono (by omega) (by omega)
  · exact (VB_of (t := 0) (n := 0) (by kernel_rfl)).mono (by omega) (by omega)
  · exact (VB_of (t := 0) (n := 0) (by kernel_rfl)).mono (by omega) (by omega)
  · exact (VB_of (t := 0) (n := 0) (by kernel_rfl)).mono (by omega) (by omega)
  · refine VB.str (sOk_app h1 (by kernel_rfl)) ?_
    rw [cs_app, List.length_append]
    have : (cs "x").length = 1 := by decide +kernel
    omega
  · exact VB.str (sOk_cut h1) (Nat.le_trans cut_len (by omega))
theorem int_near {i : Int} {z : Bool} {y : Str} (h : i.natAbs ≤ (t + 1) * KB) (h1 : sOk y = true) (h2 : (cs y).length ≤ 40) : ∀ q ∈ intNear i z y, VB (t + 1) (m + 4) q := by
  have hk := kb_ge
  have e : (t + 1 + 1) * KB = (t + 1) * KB + KB := Nat.succ_mul _ _
  intro q hq
  simp only [intNear, List.mem_cons, List.not_mem_nil, or_false] at hq
  generalize (t + 1) * KB = A at h e
  rcases hq with rfl | rfl | rfl | rfl | rfl | rfl
  · exact VB.int (by rw [e]; omega)
  · exact VB.int (by rw [e]; omega)
  · exact VB.bl
  · exact VB.str h1 (by omega)
  · exact VB.int (by rw [e]; omega)
  · refine VB.int ?_
    rw [e]
    generalize GRT = G at hk ⊢
    omega
theorem bNr_ok (h : VB t m v) (ht : t ≤ 50) : ∃ L, bNr [some (.loc k), some (.p v), some (.p (.lst [a, b])), none, none] M = .ok (.nx [some (.loc k), some (.p v), some (.p (.lst ([a, b] ++ L))), none, none]) M ∧ (∀ q ∈ L, VB (t + 1) (m + 4) q) ∧ L.length ≤ 6 := by
  have q0 : P.tru (.bl false) = some false := rfl
  have q2 : P.tru (.bl true) = some true := rfl
  have no : ∀ {ty : String}, v.ty = some ty → isiB ty "str" = false → isiB ty "int" = false → ∃ L, bNr [some (.loc k), some (.p v), some (.p (.lst [a, b])), none, none] M = .ok (.nx [some (.loc k), some (.p v), some (.p (.lst ([a, b] ++ L))), none, none]) M ∧ (∀ q ∈ L, VB (t + 1) (m + 4) q) ∧ L.length ≤ 6 := fun h1 h2 h3 => by
    refine ⟨[], ?_, nofun, by decide⟩
    rw [List.append_nil]
    unfold bNr
    exact if_ff (M1 := M) (by infer_instance) (seq_nx (if_ff (M1 := M) (by infer_instance) nil_s) nil_s)
  cases v with
  | str s =>
    clear no
    obtain ⟨h1, h2⟩ := h.str_
    have q1 : isiB "str" "str" = true := by decide
    have q3 : P.ty (.str s) = some "str" := rfl
    have ls : (cs s).length + (cs "x").length ≤ lim := by
      have : (cs "x").length = 1 := by decide +kernel
      exact lim_n (by omega)
    have a1 := oAdd_s ls
    have a2 : oSl (some 1) none (.str s) = some (.p (.str (L2.cutS s (some 1) none))) := if_pos (by rw [len_cs]; exact lim_n (by omega))
    have f1 : eLst (aCons (eC (.str "b")) (aCons (eC (.str "g")) (aCons (eC (.str "w")) (aCons (eC (.str "B")) (aCons (eBin oAdd (eVar 1) (eC (.str "x"))) (aCons (eSl (eVar 1) (sSome (eC (.int 1))) sNone) aNil)))))) [some (.loc k), some (.p (.str s)), some (.p (.lst [a, b])), none, none] M = .ok (.nw (strNear s)) M := by
      unfold strNear
      infer_instance
    have a3 : oAdd (.lst [a, b]) (.lst (strNear s)) = some (.nw ([a, b] ++ strNear s)) := oAdd_l (lim_n (Nat.le_of_ble_eq_true rfl))
    refine ⟨strNear s, ?_, str_near h, Nat.le_of_ble_eq_true rfl⟩
    unfold bNr
    exact if_tt (M1 := M) (by infer_instance) (seq_nx (set_v (bin_ok (var_ok rfl) f1 get_p get_n a3) x_valn) nil_s)
  | int i =>
    clear no
    have hb := h.int_
    have q1 : isiB "int" "str" = false := by decide
    have q4 : isiB "int" "int" = true := by decide
    have q3 : P.ty (.int i) = some "int" := rfl
    have p3 := p30
    have cst := c_str_i (i := i) (Nat.le_trans ht (by decide)) hb
    have f1 : eLst (aCons (eBin oAdd (eVar 1) (eC (.int 1))) (aCons (eBin oSub (eVar 1) (eC (.int 1))) (aCons (eNot (eVar 1)) (aCons (eCB cStr (aCons (eVar 1) aNil)) (aCons (eNeg (eVar 1)) (aCons (eBin oAdd (eBin oPow (eC (.int 10)) (eC (.int 30))) (eVar 1)) aNil)))))) [some (.loc k), some (.p (.int i)), some (.p (.lst [a, b])), none, none] M = .ok (.nw (intNear i (decide (i ≠ 0)) (Str.ofString (toString i)))) M := by
      refine lst_okN (M1 := M) (ds := [.p (.int (i + 1)), .p (.int (i - 1)), .p (.bl (!decide (i ≠ 0))), .p (.str (Str.ofString (toString i))), .p (.int (-i)), .p (.int (GRT + i))]) ?_ rfl (Nat.le_of_ble_eq_true rfl)
      refine cons_v (bin_ok (var_ok rfl) cst_ok get_p get_p o_add_i) x_val ?_
      refine cons_v (bin_ok (var_ok rfl) cst_ok get_p get_p o_sub_i) x_val ?_
      refine cons_v (not_ok (var_ok rfl) get_p rfl) x_val ?_
      refine cons_v (callB_ok (cons_v (var_ok rfl) x_val nil_ok) rfl cst) x_val ?_
      refine cons_v (neg_ok (var_ok rfl)) x_val ?_
      exact cons_v (bin_ok (bin_ok cst_ok cst_ok get_p get_p p3) (var_ok rfl) get_p get_p o_add_i) x_val nil_ok
    have a3 : oAdd (.lst [a, b]) (.lst (intNear i (decide (i ≠ 0)) (Str.ofString (toString i)))) = some (.nw ([a, b] ++ intNear i (decide (i ≠ 0)) (Str.ofString (toString i)))) := oAdd_l (lim_n (Nat.le_of_ble_eq_true rfl))
    refine ⟨intNear i (decide (i ≠ 0)) (Str.ofString (toString i)), ?_, int_near hb (sOk_of _) (str_int_len (Nat.le_trans ht (by decide)) hb), Nat.le_of_ble_eq_true rfl⟩
    unfold bNr
    exact if_ff (M1 := M) (btru_ok (isi_ok (var_ok rfl) get_p q3 q1) get_p rfl) (seq_nx (if_tt (M1 := M) (btru_ok (isi_ok (var_ok rfl) get_p q3 q4) get_p rfl) (seq_nx (set_v (bin_ok (var_ok rfl) f1 get_p get_n a3) x_valn) nil_s)) nil_s)
  | bl c =>
    clear no
    have q1 : isiB "bool" "str" = false := by decide
    have q4 : isiB "bool" "int" = true := by decide
    have q3 : P.ty (.bl c) = some "bool" := rfl
    have p3 := p30
    let i : Int := PyProof.Rows.b2i c
    have hb : i.natAbs ≤ (t + 1) * KB := by
      have h1 : i.natAbs ≤ 1 := by cases c <;> decide
      have h2 : 1 ≤ KB := by decide +kernel
      have h3 : 1 * KB ≤ (t + 1) * KB := Nat.mul_le_mul_right _ (by omega)
      omega
    have cst : cStr [.bl c] = some (.p (.str (if c = true then "True" else "False"))) := rfl
    have f1 : eLst (aCons (eBin oAdd (eVar 1) (eC (.int 1))) (aCons (eBin oSub (eVar 1) (eC (.int 1))) (aCons (eNot (eVar 1)) (aCons (eCB cStr (aCons (eVar 1) aNil)) (aCons (eNeg (eVar 1)) (aCons (eBin oAdd (eBin oPow (eC (.int 10)) (eC (.int 30))) (eVar 1)) aNil)))))) [some (.loc k), some (.p (.bl c)), some (.p (.lst [a, b])), none, none] M = .ok (.nw (intNear i c (if c = true then "True" else "False"))) M := by
      refine lst_okN (M1 := M) (ds := [.p (.int (i + 1)), .p (.int (i - 1)), .p (.bl (!c)), .p (.str (if c = true then "True" else "False")), .p (.int (-i)), .p (.int (GRT + i))]) ?_ rfl (Nat.le_of_ble_eq_true rfl)
      refine cons_v (bin_ok (d := .p (.int (i + 1))) (var_ok rfl) cst_ok get_p get_p rfl) x_val ?_
      refine cons_v (bin_ok (d := .p (.int (i - 1))) (var_ok rfl) cst_ok get_p get_p rfl) x_val ?_
      refine cons_v (not_ok (var_ok rfl) get_p rfl) x_val ?_
      refine cons_v (callB_ok (cons_v (var_ok rfl) x_val nil_ok) rfl cst) x_val ?_
      refine cons_v (d := .p (.int (-i))) (M1 := M) rfl x_val ?_
      exact cons_v (bin_ok (d := .p (.int (GRT + i))) (bin_ok cst_ok cst_ok get_p get_p p3) (var_ok rfl) get_p get_p rfl) x_val nil_ok
    have a3 : oAdd (.lst [a, b]) (.lst (intNear i c (if c = true then "True" else "False"))) = some (.nw ([a, b] ++ intNear i c (if c = true then "True" else "False"))) := oAdd_l (lim_n (Nat.le_of_ble_eq_true rfl))
    refine ⟨intNear i c (if c = true then "True" else "False"), ?_, int_near hb (by cases c <;> kernel_rfl) (by cases c <;> decide +kernel), Nat.le_of_ble_eq_true rfl⟩
    unfold bNr
    exact if_ff (M1 := M) (btru_ok (isi_ok (var_ok rfl) get_p q3 q1) get_p rfl) (seq_nx (if_tt (M1 := M) (btru_ok (isi_ok (var_ok rfl) get_p q3 q4) get_p rfl) (seq_nx (set_v (bin_ok (var_ok rfl) f1 get_p get_n a3) x_valn) nil_s)) nil_s)
  | non => exact no rfl (by decide) (by decide)
  | tup _ => exact no rfl (by decide) (by decide)
  | lst _ => exact no rfl (by decide) (by decide)
  | fn _ => cases h.good
  | scr _ => cases h.good
  | adr _ => cases h.good
theorem bB1_ok (hs : SpAt M k) (hv : VB t m v) (ht : t ≤ 50) : ∃ q M', bB1 [some (.loc k), some (.p v), none, none, none] M = .ok (.rt (.p q)) M' ∧ Spw k M M' ∧ VB (t + 1) (m + 4) q := by
  obtain ⟨a, M1, e1, w1, h1⟩ := sp_any_value 1 19 (by decide) hs
  obtain ⟨b, M2, e2, w2, h2⟩ := sp_any_value 1 19 (by decide) (w1.at hs)
  have e1 : F__law_any_value [.loc k, .p (.int 1)] M = .ok (.p a) M1 := e1
  have e2 : F__law_any_value [.loc k, .p (.int 1)] M1 = .ok (.p b) M2 := e2
  obtain ⟨L, e3, h3, l3⟩ := bNr_ok (k := k) (a := a) (b := b) (M := M2) hv ht
  obtain ⟨q, M3, e4, w4, hq⟩ := sp_pick (M := M2) (d := .p (.lst ([a, b] ++ L))) (w2.at (w1.at hs)) (.inl rfl) (by simp) (by simp; omega)
  refine ⟨q, M3, ?_, (w1.trans w2).trans w4, ?_⟩
  · unfold bB1
    refine seq_nx (M1 := M2) (set_v (lst_okN (M1 := M2) (ds := [.p a, .p b]) (cons_v (call_ok (n := 2) (M1 := M) (cons_v (var_ok rfl) x_vall (cons_v cst_ok x_val nil_ok)) rfl e1) x_val (cons_v (call_ok (n := 2) (M1 := M1) (cons_v (var_ok rfl) x_vall (cons_v cst_ok x_val nil_ok)) rfl e2) x_val nil_ok)) rfl (Nat.le_of_ble_eq_true rfl)) x_valn) ?_
    refine seq_nx e3 ?_
    exact seq_rt (ret_ok (call_ok (n := 2) (M1 := M2) (cons_v (var_ok rfl) x_vall (cons_v (var_ok rfl) x_val nil_ok)) rfl e4))
  · rcases List.mem_append.mp hq with hq | hq
    · simp only [List.mem_cons, List.not_mem_nil, or_false] at hq
      rcases hq with rfl | rfl
      · exact h1.mono (by omega) (by omega)
      · exact h2.mono (by omega) (by omega)
    · exact h3 q hq
end
end Ev


set_option linter.all false
set_option maxRecDepth 100000
set_option maxHeartbeats 400000
/-! k07: texts cut at blanks, and at " / ". -/
namespace Ev
open PySem
abbrev spw (l : List Nat) : List (List Nat) := TL.spl [32] 0 [] l
abbrev sps (l : List Nat) : List (List Nat) := TL.spl [32, 47, 32] 0 [] l
abbrev jw (A : List (List Nat)) : List Nat := TL.joinL [32] A
theorem split_w (l : List Nat) : Txt.split (SX.S l) (SX.S [32]) = (spw l).map SX.S := SX.split_S (by decide) (by decide)
theorem split_s (l : List Nat) : Txt.split (SX.S l) (SX.S [32, 47, 32]) = (sps l).map SX.S := SX.split_S (by decide) (by decide)
theorem spl_back {y : List Nat} (hy : y ≠ []) (hk : y.all (· < 256) = true) (l : List Nat) : TL.joinL y (TL.spl y 0 [] l) = l := by
  have h := congrArg TL.tl (StrLaws.join_split (SX.S l) (SX.S y))
  rw [SX.split_S hy hk, TL.tl_join, SX.map_S_tl] at h
  exact h
theorem spw_join (l : List Nat) : jw (spw l) = l := spl_back (by decide) (by decide) l
theorem sps_join (l : List Nat) : TL.joinL [32, 47, 32] (sps l) = l := spl_back (by decide) (by decide) l
theorem spw_free {l p : List Nat} (h : p ∈ spw l) : 32 ∉ p := by
  have := StrLaws.split_free (SX.S l) 32 (SX.S p) (by
    show SX.S p ∈ Txt.split (SX.S l) (SX.S [32])
    rw [split_w]
    exact List.mem_map_of_mem h)
  exact this
theorem spw_ne (l : List Nat) : spw l ≠ [] := by
  have := PyProof.Rows.split_pos (SX.S l) (SX.S [32])
  rw [split_w, List.length_map] at this
  exact List.ne_nil_of_length_pos this
theorem spw_uniq {A : List (List Nat)} (h : A ≠ []) (hp : ∀ p ∈ A, 32 ∉ p) : spw (jw A) = A := SX.spl_join h hp
theorem joinL_app {S : List Nat} : ∀ {A B : List (List Nat)}, A ≠ [] → B ≠ [] → TL.joinL S (A ++ B) = TL.joinL S A ++ (S ++ TL.joinL S B)
  | [], _, h, _ => absurd rfl h
  | [p], b :: B, _, _ => rfl
  | [p], [], _, h => absurd rfl h
  | p :: q :: A, B, _, h => by
    show p ++ (S ++ TL.joinL S ((q :: A) ++ B)) = (p ++ (S ++ TL.joinL S (q :: A))) ++ (S ++ TL.joinL S B)
    rw [joinL_app (A := q :: A) (by simp) h]
    simp [List.append_assoc]
theorem spw_app (a b : List Nat) : spw (a ++ 32 :: b) = spw a ++ spw b := by
  have e : a ++ 32 :: b = jw (spw a ++ spw b) := by
    show _ = TL.joinL [32] (spw a ++ spw b)
    rw [joinL_app (spw_ne a) (spw_ne b)]
    show a ++ 32 :: b = jw (spw a) ++ ([32] ++ jw (spw b))
    rw [spw_join, spw_join]; rfl
  rw [e]
  refine spw_uniq (by simp [spw_ne a]) fun p hp => ?_
  rcases List.mem_append.mp hp with hp | hp
  · exact spw_free hp
  · exact spw_free hp
theorem head_no {A : List (List Nat)} {r : List Nat} (hA : A ≠ []) (h : ∀ p ∈ A, 32 ∉ p ∧ p ≠ [47]) (hr : r = [] ∨ ∃ r', r = 32 :: r') : (jw A ++ r).take 2 ≠ [47, 32] := by
  intro z
  cases A with
  | nil => exact hA rfl
  | cons q A =>
    obtain ⟨h1, h2⟩ := h q List.mem_cons_self
    cases A with
    | nil =>
      have z : (q ++ r).take 2 = [47, 32] := z
      match q, h1, h2 with
      | [], _, _ =>
        rcases hr with rfl | ⟨r', rfl⟩
        · simp at z
        · simp at z
      | [c], _, h2 =>
        have : c = 47 := by
          have := congrArg (fun l => l.head?) z
          simpa using this
        exact h2 (by rw [this])
      | c :: d :: q', h1, _ =>
        have : [c, d] = [47, 32] := by simpa using z
        simp only [List.cons.injEq, and_true] at this
        exact h1 (by rw [this.2]; simp)
    | cons q2 A =>
      have z : (q ++ (32 :: jw (q2 :: A)) ++ r).take 2 = [47, 32] := z
      match q, h1, h2 with
      | [], _, _ => simp at z
      | [c], _, h2 =>
        have : c = 47 := by
          have := congrArg (fun l => l.head?) z
          simpa using this
        exact h2 (by rw [this])
      | c :: d :: q', h1, _ =>
        have : [c, d] = [47, 32] := by simpa using z
        simp only [List.cons.injEq, and_true] at this
        exact h1 (by rw [this.2]; simp)
theorem noslash : ∀ {A : List (List Nat)} {r : List Nat}, A ≠ [] → (∀ p ∈ A, 32 ∉ p ∧ p ≠ [47]) → (r = [] ∨ ∃ r', r = 32 :: r') → ∀ i, i < (jw A).length → TL.pre [32, 47, 32] ((jw A ++ r).drop i) = false
  | [], _, h, _, _ => absurd rfl h
  | [p], r, _, h, _ => fun i hi => TL.free_of (h p List.mem_cons_self).1 i hi
  | p :: q :: A, r, _, h, hr => fun i hi => by
    have e : jw (p :: q :: A) ++ r = p ++ (32 :: (jw (q :: A) ++ r)) := by
      show (p ++ ([32] ++ jw (q :: A))) ++ r = _
      simp
    have hl : (jw (p :: q :: A)).length = p.length + 1 + (jw (q :: A)).length := by
      show (p ++ ([32] ++ jw (q :: A))).length = _
      simp; omega
    rw [e]
    have hq : ∀ z ∈ q :: A, 32 ∉ z ∧ z ≠ [47] := fun z hz => h z (List.mem_cons_of_mem _ hz)
    rcases Nat.lt_trichotomy i p.length with h1 | h1 | h1
    · exact TL.free_of (h p List.mem_cons_self).1 i h1
    · subst h1
      rw [List.drop_left]
      cases hp : TL.pre [32, 47, 32] (32 :: (jw (q :: A) ++ r)) with
      | false => rfl
      | true =>
        have e2 : (32 :: (jw (q :: A) ++ r)).take 3 = [32, 47, 32] := eq_of_beq hp
        rw [List.take_succ_cons] at e2
        exact absurd (List.cons.inj e2).2 (head_no (by simp) hq hr)
    · have e3 : (p ++ (32 :: (jw (q :: A) ++ r))).drop i = (jw (q :: A) ++ r).drop (i - p.length - 1) := by
        rw [List.drop_append, List.drop_of_length_le (by omega), List.nil_append]
        obtain ⟨k, hk⟩ : ∃ k, i - p.length = k + 1 := ⟨i - p.length - 1, by omega⟩
        rw [hk, List.drop_succ_cons]; rfl
      rw [e3]
      exact noslash (by simp) hq hr _ (by omega)
theorem sps_two {A B : List (List Nat)} (hA : A ≠ []) (hB : B ≠ []) (gA : ∀ p ∈ A, 32 ∉ p ∧ p ≠ [47]) (gB : ∀ p ∈ B, 32 ∉ p ∧ p ≠ [47]) : sps (jw A ++ ([32, 47, 32] ++ jw B)) = [jw A, jw B] := by
  have e1 := TL.spl_part (S := [32, 47, 32]) (p := jw A) (rest := jw B) (acc := []) (by decide) (noslash (r := [32, 47, 32] ++ jw B) hA gA (.inr ⟨_, rfl⟩))
  have e2 := TL.spl_last (S := [32, 47, 32]) (p := jw B) (acc := []) (fun i hi => by
    have := noslash (r := []) hB gB (.inl rfl) i hi
    rwa [List.append_nil] at this)
  show TL.spl [32, 47, 32] 0 [] _ = _
  rw [e1, e2]; rfl
theorem sps_words {l p q : List Nat} (h : sps l = [p, q]) : spw l = spw p ++ [47] :: spw q := by
  have e := sps_join l
  rw [h] at e
  have e : p ++ ([32, 47, 32] ++ q) = l := e
  have e2 : p ++ ([32, 47, 32] ++ q) = p ++ 32 :: ([47] ++ 32 :: q) := rfl
  rw [← e, e2, spw_app, spw_app]
  have : spw [47] = [[47]] := by decide
  rw [this]; rfl
theorem count0 {A : List (List Nat)} : A.count [47] = 0 ↔ [47] ∉ A := List.count_eq_zero
theorem count_one {A : List (List Nat)} (h : A.count [47] = 1) : ∃ a b, A = a ++ [47] :: b ∧ [47] ∉ a ∧ [47] ∉ b := by
  have hm : [47] ∈ A := List.count_pos_iff.mp (by omega)
  obtain ⟨a, b, rfl⟩ := List.append_of_mem hm
  rw [List.count_append, List.count_cons_self] at h
  exact ⟨a, b, rfl, count0.mp (by omega), count0.mp (by omega)⟩
/-- how a text is cut -/
theorem cut_cases (l : List Nat) :
    (∃ p q, sps l = [p, q] ∧ spw l = spw p ++ [47] :: spw q ∧ [47] ∉ spw p ∧ [47] ∉ spw q) ∨
    (((∃ p q, sps l = [p, q] ∧ ([47] ∈ spw p ∨ [47] ∈ spw q)) ∨ (sps l).length ≠ 2) ∧
      ((spw l).count [47] ≠ 1 ∨ ∃ a b, spw l = a ++ [47] :: b ∧ [47] ∉ a ∧ [47] ∉ b ∧ (a = [] ∨ b = []))) := by
  by_cases h2 : (sps l).length = 2
  · obtain ⟨p, q, hs⟩ : ∃ p q, sps l = [p, q] := by
      match sps l, h2 with
      | [p, q], _ => exact ⟨p, q, rfl⟩
    have hw := sps_words hs
    by_cases hp : [47] ∈ spw p
    · refine .inr ⟨.inl ⟨p, q, hs, .inl hp⟩, .inl ?_⟩
      rw [hw, List.count_append, List.count_cons_self]
      have := List.count_pos_iff.mpr hp
      omega
    · by_cases hq : [47] ∈ spw q
      · refine .inr ⟨.inl ⟨p, q, hs, .inr hq⟩, .inl ?_⟩
        rw [hw, List.count_append, List.count_cons_self]
        have := List.count_pos_iff.mpr hq
        omega
      · exact .inl ⟨p, q, hs, hw, hp, hq⟩
  · refine .inr ⟨.inr h2, ?_⟩
    by_cases hc : (spw l).count [47] = 1
    · obtain ⟨a, b, hab, ha, hb⟩ := count_one hc
      refine .inr ⟨a, b, hab, ha, hb, ?_⟩
      by_cases ea : a = []
      · exact .inl ea
      · by_cases eb : b = []
        · exact .inr eb
        · exfalso
          have fr : ∀ p ∈ spw l, 32 ∉ p := fun p hp => spw_free hp
          rw [hab] at fr
          have e : l = jw a ++ ([32, 47, 32] ++ jw b) := by
            have e1 := spw_join l
            rw [hab] at e1
            rw [← e1]
            show TL.joinL [32] (a ++ [47] :: b) = _
            rw [joinL_app ea (by simp)]
            cases b with
            | nil => exact absurd rfl eb
            | cons y b => rfl
          have gA : ∀ p ∈ a, 32 ∉ p ∧ p ≠ [47] := fun p hp => ⟨fr p (List.mem_append_left _ hp), fun z => ha (z ▸ hp)⟩
          have gB : ∀ p ∈ b, 32 ∉ p ∧ p ≠ [47] := fun p hp => ⟨fr p (List.mem_append_right _ (List.mem_cons_of_mem _ hp)), fun z => hb (z ▸ hp)⟩
          have := sps_two ea eb gA gB
          rw [← e] at this
          rw [this] at h2
          exact h2 rfl
    · exact .inl hc
end Ev

set_option linter.all false
set_option maxRecDepth 100000
set_option maxHeartbeats 400000
/-! k07: numbers as texts. -/
namespace Ev
open PySem
abbrev dv (w : List Nat) : Nat := NumText.digitsVal w
theorem dv_snoc (a : List Nat) (d : Nat) : dv (a ++ [d]) = dv a * 10 + (d - 48) := by
  unfold dv NumText.digitsVal
  rw [List.foldl_append]; rfl
theorem dv_lt : ∀ (n : Nat) (w : List Nat), w.length = n → NumText.AllDigits w → dv w < 10 ^ n
  | 0, w, h, _ => by rw [List.length_eq_zero_iff.mp h]; decide
  | n + 1, w, h, hd => by
    obtain ⟨a, d, rfl⟩ : ∃ a d, w = a ++ [d] := by
      rcases List.eq_nil_or_concat w with rfl | ⟨a, d, rfl⟩
      · cases h
      · exact ⟨a, d, by simp⟩
    have ih := dv_lt n a (by simpa using h) fun c hc => hd c (List.mem_append_left _ hc)
    have hc := hd d (by simp)
    rw [dv_snoc, Nat.pow_succ]
    omega
theorem dv_pos : ∀ (n : Nat) (w : List Nat), w.length = n + 1 → NumText.AllDigits w → w.head? ≠ some 48 → 1 ≤ dv w
  | 0, w, h, hd, hh => by
    match w, h with
    | [c], _ =>
      have hc := hd c (by simp)
      have : c ≠ 48 := fun z => hh (by rw [z]; rfl)
      show 1 ≤ 0 * 10 + (c - 48)
      omega
  | n + 1, w, h, hd, hh => by
    obtain ⟨a, d, rfl⟩ : ∃ a d, w = a ++ [d] := by
      rcases List.eq_nil_or_concat w with rfl | ⟨a, d, rfl⟩
      · cases h
      · exact ⟨a, d, by simp⟩
    have ha : a.length = n + 1 := by simpa using h
    have ih := dv_pos n a ha (fun c hc => hd c (List.mem_append_left _ hc)) (by
      cases a with
      | nil => simp at ha
      | cons x a => simpa using hh)
    rw [dv_snoc]
    omega
theorem canon_of : ∀ (n : Nat) (w : List Nat), w.length = n + 1 → NumText.AllDigits w → w.head? ≠ some 48 → TL.numL (dv w) = w
  | 0, w, h, hd, hh => by
    match w, h with
    | [c], _ =>
      have hc := hd c (by simp)
      have e : dv [c] = c - 48 := by show 0 * 10 + (c - 48) = _; omega
      rw [e, TL.numL_lt (by omega)]
      simp; omega
  | n + 1, w, h, hd, hh => by
    obtain ⟨a, d, rfl⟩ : ∃ a d, w = a ++ [d] := by
      rcases List.eq_nil_or_concat w with rfl | ⟨a, d, rfl⟩
      · cases h
      · exact ⟨a, d, by simp⟩
    have ha : a.length = n + 1 := by simpa using h
    have hda : NumText.AllDigits a := fun c hc => hd c (List.mem_append_left _ hc)
    have hha : a.head? ≠ some 48 := by
      cases a with
      | nil => simp at ha
      | cons x a => simpa using hh
    have ih := canon_of n a ha hda hha
    have hp := dv_pos n a ha hda hha
    have hc := hd d (by simp)
    rw [dv_snoc, TL.numL_step (by omega)]
    have e1 : (dv a * 10 + (d - 48)) / 10 = dv a := by omega
    have e2 : 48 + (dv a * 10 + (d - 48)) % 10 = d := by omega
    rw [e1, e2, ih]
theorem numL_head {n : Nat} : n = 0 ∨ (TL.numL n).head? ≠ some 48 := by
  induction n using Nat.strongRecOn with
  | _ n ih =>
    by_cases h : n < 10
    · rw [TL.numL_lt h]
      by_cases h0 : n = 0
      · exact .inl h0
      · right
        simp; omega
    · right
      rw [TL.numL_step (by omega)]
      rcases ih (n / 10) (by omega) with h0 | h0
      · omega
      · cases hq : TL.numL (n / 10) with
        | nil => exact absurd hq (TL.numL_ne _)
        | cons x l => rw [hq] at h0; simpa using h0
theorem canon {w : List Nat} (hd : NumText.AllDigits w) (hne : w ≠ []) : TL.numL (dv w) = w ↔ (w = [48] ∨ w.head? ≠ some 48) := by
  constructor
  · intro h
    rcases numL_head (n := dv w) with h0 | h0
    · left
      rw [h0] at h
      rw [← h]; rfl
    · right
      rwa [h] at h0
  · rintro (rfl | h)
    · rfl
    · exact canon_of (w.length - 1) w (by have := List.length_pos_iff.mpr hne; omega) hd h
def digC (c : Nat) : Bool := decide (48 ≤ c) && decide (c ≤ 57)
theorem allDig_iff {w : List Nat} : w.all digC = true ↔ NumText.AllDigits w := by
  rw [List.all_eq_true]
  constructor
  · intro h c hc
    have := h c hc
    unfold digC at this
    simpa using this
  · intro h c hc
    have := h c hc
    unfold digC
    simp; exact this
/-- the number that a word writes, or -1 -/
def numS (w : List Nat) : Int := if w ≠ [] ∧ w.length ≤ 31 ∧ w.all digC = true then (if TL.numL (dv w) = w then (dv w : Int) else -1) else -1
theorem numS_num {n : Nat} (h : n < 10 ^ 31) : numS (TL.numL n) = n := by
  unfold numS
  rw [if_pos ⟨TL.numL_ne n, TL.numL_len (by decide) h, allDig_iff.mpr (TL.numL_digits n)⟩]
  have : dv (TL.numL n) = n := TL.numL_val n
  rw [this, if_pos rfl]
theorem numS_bad {w : List Nat} (h : w = [47]) : numS w = -1 := by
  subst h
  decide
theorem numS_nil : numS [] = -1 := by decide
theorem numS_abs (w : List Nat) : (numS w).natAbs < 10 ^ 31 := by
  unfold numS
  split
  · rename_i h
    split
    · have h1 := dv_lt _ w rfl (allDig_iff.mp h.2.2)
      have h2 : 10 ^ w.length ≤ 10 ^ 31 := Nat.pow_le_pow_right (by decide) h.2.1
      rw [Int.natAbs_natCast]
      omega
    · decide
  · decide
end Ev

set_option linter.all false
set_option maxRecDepth 100000
set_option maxHeartbeats 400000
/-! k07: numbers and cuts as the defs do them. -/
namespace Ev
open PySem
abbrev wP (w : List Nat) : P := .str (SX.S w)
theorem S_cs (z : Str) : SX.S (cs z) = z := SX.S_tl z
theorem cs_S (w : List Nat) : cs (SX.S w) = w := by simp
theorem sp1 : (" " : Str) = SX.S [32] := by kernel_rfl
theorem sp3 : (" / " : Str) = SX.S [32, 47, 32] := by kernel_rfl
theorem slS : ("/" : Str) = SX.S [47] := by kernel_rfl
theorem m_split_w {l : List Nat} (h : l.length ≤ 900000) : mSplit (.str (SX.S l)) [.str " "] = some (.nw ((spw l).map wP)) := by
  have h1 : ("" ++ " " : Str).length ≠ 0 := by decide +kernel
  have h2 : (" " : Str).length ≠ 0 ∧ (SX.S l).length + 2 ≤ lim := ⟨by decide +kernel, by rw [SX.S_len]; exact Nat.le_trans (show l.length + 2 ≤ 1000000 by omega) lim_mil⟩
  show (if (" " : Str).length ≠ 0 ∧ (SX.S l).length + 2 ≤ lim then some (D.nw ((Txt.split (SX.S l) " ").map P.str)) else none) = _
  rw [if_pos h2, sp1, split_w, List.map_map]; rfl
theorem m_split_s {l : List Nat} (h : l.length ≤ 900000) : mSplit (.str (SX.S l)) [.str " / "] = some (.nw ((sps l).map wP)) := by
  have h2 : (" / " : Str).length ≠ 0 ∧ (SX.S l).length + 2 ≤ lim := ⟨by decide +kernel, by rw [SX.S_len]; exact Nat.le_trans (show l.length + 2 ≤ 1000000 by omega) lim_mil⟩
  show (if (" / " : Str).length ≠ 0 ∧ (SX.S l).length + 2 ≤ lim then some (D.nw ((Txt.split (SX.S l) " / ").map P.str)) else none) = _
  rw [if_pos h2, sp3, split_s, List.map_map]; rfl
theorem cutS_drop {l : Str} {i : Nat} : cs (L2.cutS l (some (i : Int)) none) = (cs l).drop i := by
  unfold L2.cutS
  rw [HT.sIx_nat, HT.sIx_none]
  have e : l.length = (cs l).length := len_cs
  rw [e]
  show ((cs l).drop (min i (cs l).length)).take ((cs l).length - min i (cs l).length) = _
  by_cases h : i ≤ (cs l).length
  · rw [Nat.min_eq_left h, List.take_of_length_le (by rw [List.length_drop]; exact Nat.le_refl _)]
  · rw [Nat.min_eq_right (by omega), List.drop_of_length_le (Nat.le_refl _), List.drop_of_length_le (by omega)]; simp
theorem cut_take {w : List Nat} {i : Nat} : L2.cutS (SX.S w) none (some (i : Int)) = SX.S (w.take i) := by
  rw [← S_cs (L2.cutS (SX.S w) none (some (i : Int))), cutS_take, cs_S]
theorem cut_drop {w : List Nat} {i : Nat} : L2.cutS (SX.S w) (some (i : Int)) none = SX.S (w.drop i) := by
  rw [← S_cs (L2.cutS (SX.S w) (some (i : Int)) none), cutS_drop, cs_S]
theorem cs_digs : cs "0123456789" = [48, 49, 50, 51, 52, 53, 54, 55, 56, 57] := by rfl
theorem dig_let (c : Nat) : letB "0123456789" (.str (sg c)) = digC c := by
  show decide (c ∈ cs "0123456789") = (decide (48 ≤ c) && decide (c ≤ 57))
  rw [cs_digs, Bool.eq_iff_iff]
  simp
  omega
theorem all_digs (l : List Nat) : (chars (SX.S l)).all (letB "0123456789") = l.all digC := by
  unfold chars
  rw [List.all_map]
  congr 1
  funext c
  exact dig_let c
theorem filt_ex (g : P → Bool) (ps : List P) : (ps.filterMap fun p => if g p = true then none else some p).isEmpty = ps.all g := filt_nil g ps
theorem c_str_n {n : Nat} (h : n < 10 ^ 31) : cStr [.int (n : Int)] = some (.p (wP (TL.numL n))) := by
  have h2 : (10 : Nat) ^ 31 < 2 ^ 1000 := by decide +kernel
  have e : cStr [.int (n : Int)] = some (.p (.str (Str.ofString (toString (n : Int))))) := if_pos (by rw [Int.natAbs_natCast]; exact Nat.lt_trans h h2)
  rw [e, SX.num_S]
theorem c_int_w {w : List Nat} (h1 : NumText.AllDigits w) (h2 : w ≠ []) (h3 : w.length ≤ 31) : cInt [wP w] = some (.p (.int (dv w : Int))) := by
  have e := intText_digits (x := SX.S w) (by show NumText.AllDigits (cs (SX.S w)); rw [cs_S]; exact h1) (by show cs (SX.S w) ≠ []; rw [cs_S]; exact h2) (by rw [SX.S_len]; omega)
  rw [show (SX.S w).cps.toList = w from cs_S w] at e
  show (if (SX.S w).length ≤ 640 then (PySem.intText? (SX.S w)).map fun n => D.p (.int n) else none) = _
  rw [if_pos (by rw [SX.S_len]; omega), e]; rfl
theorem str_S {a b : List Nat} : oEq (wP a) (wP b) = some (.p (.bl (decide (a = b)))) := by
  have : decide (SX.S a = SX.S b) = decide (a = b) := by
    rw [Bool.eq_iff_iff, decide_eq_true_eq, decide_eq_true_eq]
    exact ⟨SX.S_inj, fun h => by rw [h]⟩
  show some (D.p (.bl (decide (SX.S a = SX.S b)))) = _
  rw [this]
theorem strN_S {a b : List Nat} : oNe (wP a) (wP b) = some (.p (.bl (!decide (a = b)))) := by
  have : decide (SX.S a = SX.S b) = decide (a = b) := by
    rw [Bool.eq_iff_iff, decide_eq_true_eq, decide_eq_true_eq]
    exact ⟨SX.S_inj, fun h => by rw [h]⟩
  show some (D.p (.bl (!decide (SX.S a = SX.S b)))) = _
  rw [this]
theorem emp_S : ("" : Str) = SX.S [] := by kernel_rfl
theorem zero_S : ("0" : Str) = SX.S [48] := by kernel_rfl
local macro_rules
  | `(tactic| infer_instance) => `(tactic| first
    | with_reducible exact nil_ok
    | with_reducible exact cst_ok
    | with_reducible exact nil_s
    | with_reducible exact raise_ok
    | with_reducible exact x_val
    | with_reducible exact x_valn
    | with_reducible exact x_vall
    | with_reducible exact get_p
    | with_reducible exact get_n
    | (with_reducible apply getl_); first | with_reducible assumption | infer_instance
    | (with_reducible apply var_ok); first | with_reducible assumption | rfl
    | with_reducible exact getL0
    | with_reducible exact sNone_ok
    | (with_reducible apply sSome_ok) <;> infer_instance
    | (with_reducible apply eSl_ok) <;> infer_instance
    | (with_reducible apply rng_ok) <;> infer_instance
    | (with_reducible apply iof_str) <;> infer_instance
    | (with_reducible apply iof_nw) <;> infer_instance
    | (with_reducible apply iof_lst) <;> infer_instance
    | (with_reducible apply iof_tup) <;> infer_instance
    | with_reducible exact allP0
    | (with_reducible apply getLc) <;> infer_instance
    | (with_reducible apply allPc) <;> infer_instance
    | (with_reducible apply cons_v) <;> infer_instance
    | (with_reducible apply seq_nx) <;> infer_instance
    | (with_reducible apply seq_rt) <;> infer_instance
    | (with_reducible apply seq_er) <;> infer_instance
    | (with_reducible apply set_v) <;> infer_instance
    | (with_reducible apply setM_ok') <;> infer_instance
    | (with_reducible apply ret_ok) <;> infer_instance
    | (with_reducible apply exp_ok) <;> infer_instance
    | (with_reducible apply exp_er) <;> infer_instance
    | (with_reducible apply if_tt) <;> infer_instance
    | (with_reducible apply if_ff) <;> infer_instance
    | (with_reducible apply bof_ok) <;> infer_instance
    | (with_reducible apply btru_ok) <;> infer_instance
    | (with_reducible apply bnot_t) <;> infer_instance
    | (with_reducible apply bnot_f) <;> infer_instance
    | (with_reducible apply band_tt) <;> infer_instance
    | (with_reducible apply band_f) <;> infer_instance
    | (with_reducible apply bor_t) <;> infer_instance
    | (with_reducible apply bor_ff) <;> infer_instance
    | (with_reducible apply and_tt) <;> infer_instance
    | (with_reducible apply and_ff) <;> infer_instance
    | (with_reducible apply ife_tt) <;> infer_instance
    | (with_reducible apply ife_ff) <;> infer_instance
    | (with_reducible apply not_t) <;> infer_instance
    | (with_reducible apply not_f) <;> infer_instance
    | (with_reducible apply neg_ok) <;> infer_instance
    | (with_reducible apply isi_ok) <;> infer_instance
    | (with_reducible apply chain_t) <;> infer_instance
    | (with_reducible apply chain_f) <;> infer_instance
    | (with_reducible apply bin_ok) <;> infer_instance
    | (with_reducible apply callB_ok) <;> infer_instance
    | (with_reducible apply mt_ok) <;> infer_instance
    | (with_reducible apply call_ok) <;> infer_instance
    | (with_reducible apply call_er) <;> infer_instance
    | (with_reducible apply word_er) <;> infer_instance
    | (with_reducible apply lst_okN) <;> infer_instance
    | (with_reducible apply tup_okN) <;> infer_instance
    | (with_reducible apply par_ok) <;> infer_instance
    | with_reducible assumption
    | ((with_reducible apply lt_t); omega)
    | ((with_reducible apply lt_f); omega)
    | ((with_reducible apply le_t); omega)
    | ((with_reducible apply le_f); omega)
    | ((with_reducible apply gt_t); omega)
    | ((with_reducible apply gt_f); omega)
    | ((with_reducible apply ge_t); omega)
    | ((with_reducible apply ge_f); omega)
    | ((with_reducible apply eq_t); omega)
    | ((with_reducible apply eq_f); omega)
    | ((with_reducible apply ne_t); omega)
    | ((with_reducible apply ne_f); omega)
    | ((with_reducible apply o_mod_i); omega)
    | (with_reducible apply mul_small_l) <;> omega
    | (with_reducible apply mul_small_r) <;> omega
    | with_reducible exact isi1 | with_reducible exact isi2 | with_reducible exact isi3 | with_reducible exact isi4 | with_reducible exact isi5 | with_reducible exact isi6
    | ((with_reducible apply Nat.le_of_ble_eq_true); rfl)
    | rfl)

section
variable {M : Sto} {w : List Nat}
theorem len_w (h : w.length ≤ 900000) : cLen [wP w] = some (.p (.int (w.length : Int))) := by
  have := len_ok (l := SX.S w) (by rw [cs_S]; exact Nat.le_trans (show w.length ≤ 1000000 by omega) lim_mil)
  rwa [cs_S] at this
theorem eq_nil_w : oEq (wP w) (.str "") = some (.p (.bl (decide (w = [])))) := by rw [emp_S]; exact str_S
theorem sp_number_of (h : w.length ≤ 900000) : F_number_of [.p (wP w)] M = .ok (.p (.int (numS w))) M := by
  have q0 : P.tru (.bl false) = some false := rfl
  have q2 : P.tru (.bl true) = some true := rfl
  have el := len_w h
  have e0 := eq_nil_w (w := w)
  have e1 : eLc (.nm 1) [1] (iOf (eVar 0)) bYes (eBin oIn (eVar 1) (eC (.str "0123456789"))) (some (.p (wP w)) :: List.replicate (2 - 1) none) M = .ok (.nw ((chars (SX.S w)).map fun p => .bl (letB "0123456789" p))) M := by
    refine eLc_map (fun p => .bl (letB "0123456789" p)) (iof_str (var_ok rfl)) rfl (fun p hp => ⟨_, x_nm, fun M' => ⟨_, ?_, x_val⟩⟩) (by rw [show (chars (SX.S w)).length = w.length by simp [chars]]; exact Nat.le_trans (show w.length ≤ 1000000 by omega) lim_mil)
    have e3 : oIn p (.str "0123456789") = some (.p (.bl (letB "0123456789" p))) := by
      obtain ⟨c, hc, rfl⟩ := List.mem_map.mp hp
      rfl
    infer_instance
  have a1 := all_bl (letB "0123456789") (chars (SX.S w))
  rw [all_digs] at a1
  unfold F_number_of; rw [fnB1]; refine lv_p ?_; unfold b_number_of
  unfold numS
  by_cases hn : w = []
  · rw [decide_eq_true hn] at e0
    rw [if_neg fun z => z.1 hn]
    exact seq_rt (if_tt (M1 := M) (bor_t (by infer_instance)) (by infer_instance))
  · rw [decide_eq_false hn] at e0
    by_cases h31 : w.length ≤ 31
    · cases ha : w.all digC with
      | false =>
        rw [ha] at a1
        rw [if_neg fun z => by cases z.2.2]
        exact seq_rt (if_tt (M1 := M) (bor_ff (M1 := M) (by infer_instance) (bor_ff (M1 := M) (by infer_instance) (bnot_t (by infer_instance)))) (by infer_instance))
      | true =>
        rw [ha] at a1
        have hd := allDig_iff.mp ha
        have hlt := dv_lt _ w rfl hd
        have hpw : 10 ^ w.length ≤ 10 ^ 31 := Nat.pow_le_pow_right (by decide) h31
        have c1 := c_int_w hd hn h31
        have c2 := c_str_n (n := dv w) (Nat.lt_of_lt_of_le hlt hpw)
        have c3 := str_S (a := TL.numL (dv w)) (b := w)
        clear hpw hlt
        rw [if_pos ⟨hn, h31, rfl⟩]
        refine seq_nx (M1 := M) (if_ff (M1 := M) (bor_ff (M1 := M) (by infer_instance) (bor_ff (M1 := M) (by infer_instance) (bnot_f (by infer_instance)))) nil_s) ?_
        by_cases hc : TL.numL (dv w) = w
        · rw [decide_eq_true hc] at c3
          rw [if_pos hc]
          exact seq_rt (ret_ok (ife_tt (M1 := M) (by infer_instance) (by infer_instance)))
        · rw [decide_eq_false hc] at c3
          rw [if_neg hc]
          exact seq_rt (ret_ok (ife_ff (M1 := M) (by infer_instance) (by infer_instance)))
    · rw [if_neg fun z => h31 z.2.1]
      exact seq_rt (if_tt (M1 := M) (bor_ff (M1 := M) (by infer_instance) (bor_t (by infer_instance))) (by infer_instance))
theorem sp_figures (h : w.length ≤ 900000) (ho : ∀ c ∈ w, c < 0x110000) : F__law_figures [.p (wP w)] M = .ok (.p (.int (numS w))) M := by
  have q0 : P.tru (.bl false) = some false := rfl
  have q2 : P.tru (.bl true) = some true := rfl
  have el := len_w h
  have e0 := eq_nil_w (w := w)
  have hlc : (chars (SX.S w)).length ≤ lim := by rw [show (chars (SX.S w)).length = w.length by simp [chars]]; exact Nat.le_trans (show w.length ≤ 1000000 by omega) lim_mil
  have e6 : eLc (.nm 1) [1] (iOf (eVar 0)) (bOf (eBin oNotIn (eVar 1) (eC (.str "0123456789")))) (eVar 1) (some (.p (wP w)) :: List.replicate (2 - 1) none) M = .ok (.nw ((chars (SX.S w)).filterMap fun p => if letB "0123456789" p = true then none else some p)) M := by
    refine eLc_pure (ps := chars (SX.S w)) (fun p => if letB "0123456789" p = true then none else some p) (iof_str (var_ok rfl)) rfl (fun p hp => ⟨_, x_nm, fun M' => ?_⟩) hlc
    have e7 : oNotIn p (.str "0123456789") = some (.p (.bl (!letB "0123456789" p))) := by
      obtain ⟨c, hc, rfl⟩ := List.mem_map.mp hp
      rfl
    constructor
    · cases hd : letB "0123456789" p with
      | true =>
        rw [hd] at e7
        exact bof_ok (bin_ok (var_ok rfl) cst_ok get_p get_p e7)
      | false =>
        rw [hd] at e7
        exact bof_ok (bin_ok (var_ok rfl) cst_ok get_p get_p e7)
    · intro r hr
      refine ⟨.p p, var_ok rfl, ?_⟩
      split at hr
      · cases hr
      · cases hr; rfl
  have e8 := ne_nil (L := (chars (SX.S w)).filterMap fun p => if letB "0123456789" p = true then none else some p) (datLB_of fun p hp => by
    obtain ⟨c, hc, rfl⟩ := List.mem_map.mp (filt_mem hp)
    rw [datB, sOk_iff]
    intro d hd
    have hd : d = c := by simpa using hd
    rw [hd]
    exact ho c (by simpa using hc))
  rw [filt_nil, all_digs] at e8
  have e9 : eLst aNil (some (.p (wP w)) :: List.replicate (2 - 1) none) M = .ok (.nw []) M := lst_okN (M1 := M) (ds := []) nil_ok rfl (by decide)
  have e10 := bof_ok (bin_ok e6 e9 get_n get_n e8)
  unfold F__law_figures; rw [fnB1]; refine lv_p ?_; unfold b__law_figures
  unfold numS
  by_cases hn : w = []
  · rw [decide_eq_true hn] at e0
    rw [if_neg fun z => z.1 hn]
    exact seq_rt (if_tt (M1 := M) (bor_t (by infer_instance)) (by infer_instance))
  · rw [decide_eq_false hn] at e0
    by_cases h31 : w.length ≤ 31
    · cases ha : w.all digC with
      | false =>
        rw [ha] at e10
        have e10 : bOf _ _ M = .ok true M := e10
        rw [if_neg fun z => by cases z.2.2]
        exact seq_rt (if_tt (M1 := M) (bor_ff (M1 := M) (by infer_instance) (bor_ff (M1 := M) (by infer_instance) e10)) (by infer_instance))
      | true =>
        rw [ha] at e10
        have e10 : bOf _ _ M = .ok false M := e10
        have hd := allDig_iff.mp ha
        have c1 := c_int_w hd hn h31
        have c3 : oEq (wP w) (.str "0") = some (.p (.bl (decide (w = [48])))) := by rw [zero_S]; exact str_S
        have cn := canon hd hn
        rw [if_pos ⟨hn, h31, rfl⟩]
        refine seq_nx (M1 := M) (if_ff (M1 := M) (bor_ff (M1 := M) (by infer_instance) (bor_ff (M1 := M) (by infer_instance) e10)) nil_s) ?_
        by_cases h0 : w = [48]
        · rw [decide_eq_true h0] at c3
          rw [if_pos (cn.mpr (.inl h0))]
          exact seq_rt (ret_ok (ife_tt (M1 := M) (bor_t (by infer_instance)) (by infer_instance)))
        · rw [decide_eq_false h0] at c3
          cases hw : w with
          | nil => exact absurd hw hn
          | cons c r =>
            have ix : oIx (wP w) (.int 0) = some (.p (.str (sg c))) := by
              show (if (SX.S w).length ≤ lim then (L2.atI (SX.S w).cps.toList 0).map fun c => D.p (.str ⟨#[c]⟩) else none) = _
              rw [if_pos (by rw [SX.S_len]; exact Nat.le_trans (show w.length ≤ 1000000 by omega) lim_mil), show (SX.S w).cps.toList = w from cs_S w, hw, atI0]; rfl
            have c4 : oNe (.str (sg c)) (.str "0") = some (.p (.bl (!decide (c = 48)))) := by
              rw [zero_S]
              have := strN_S (a := [c]) (b := [48])
              rw [show decide ([c] = [48]) = decide (c = 48) by simp] at this
              exact this
            by_cases hc : c = 48
            · rw [decide_eq_true hc] at c4
              have c4 : oNe (.str (sg c)) (.str "0") = some (.p (.bl false)) := c4
              rw [← hw, if_neg fun z => by
                rcases cn.mp z with z | z
                · exact h0 z
                · rw [hw, hc] at z; exact z rfl]
              exact seq_rt (ret_ok (ife_ff (M1 := M) (bor_ff (M1 := M) (by infer_instance) (by infer_instance)) (by infer_instance)))
            · rw [decide_eq_false hc] at c4
              have c4 : oNe (.str (sg c)) (.str "0") = some (.p (.bl true)) := c4
              rw [← hw, if_pos (cn.mpr (.inr (by rw [hw]; simpa using hc)))]
              exact seq_rt (ret_ok (ife_tt (M1 := M) (bor_ff (M1 := M) (by infer_instance) (by infer_instance)) (by infer_instance)))
    · rw [if_neg fun z => h31 z.2.1]
      exact seq_rt (if_tt (M1 := M) (bor_ff (M1 := M) (by infer_instance) (bor_t (by infer_instance))) (by infer_instance))
end
end Ev

set_option linter.all false
set_option maxRecDepth 100000
set_option maxHeartbeats 400000
/-! k07: read_machine and the law's own reading. -/
namespace Ev
open PySem
def rowP (w : List Nat) : P := .tup [wP (w.take 1), .int (numS (w.drop 1))]
def ribP (A : List (List Nat)) : P := .tup (A.map rowP)
def stpP (B : List (List Nat)) : P := .tup (B.map fun w => .int (numS w))
def fndP (A B : List (List Nat)) : P := .tup [ribP A, stpP B]
theorem mem_jL {S : List Nat} {c : Nat} : ∀ {A : List (List Nat)} {p : List Nat}, p ∈ A → c ∈ p → c ∈ TL.joinL S A
  | [], _, h, _ => by cases h
  | [q], p, h, hc => by
    rw [List.mem_singleton.mp h] at hc
    exact hc
  | q :: q2 :: A, p, h, hc => by
    show c ∈ q ++ (S ++ TL.joinL S (q2 :: A))
    rcases List.mem_cons.mp h with rfl | h
    · exact List.mem_append_left _ hc
    · exact List.mem_append_right _ (List.mem_append_right _ (mem_jL h hc))
theorem len_jL {S : List Nat} : ∀ {A : List (List Nat)} {p : List Nat}, p ∈ A → p.length ≤ (TL.joinL S A).length
  | [], _, h => by cases h
  | [q], p, h => by
    rw [List.mem_singleton.mp h]
    exact Nat.le_refl _
  | q :: q2 :: A, p, h => by
    show p.length ≤ (q ++ (S ++ TL.joinL S (q2 :: A))).length
    rw [List.length_append, List.length_append]
    rcases List.mem_cons.mp h with rfl | h
    · omega
    · have := len_jL (S := S) h
      omega
theorem spw_mem {l w : List Nat} {c : Nat} (hw : w ∈ spw l) (hc : c ∈ w) : c ∈ l := by
  have := mem_jL (S := [32]) hw hc
  rwa [show TL.joinL [32] (spw l) = l from spw_join l] at this
theorem spw_len {l w : List Nat} (hw : w ∈ spw l) : w.length ≤ l.length := by
  have := len_jL (S := [32]) hw
  rwa [show TL.joinL [32] (spw l) = l from spw_join l] at this
theorem sps_mem {l w : List Nat} {c : Nat} (hw : w ∈ sps l) (hc : c ∈ w) : c ∈ l := by
  have := mem_jL (S := [32, 47, 32]) hw hc
  rwa [sps_join l] at this
theorem sps_len {l w : List Nat} (hw : w ∈ sps l) : w.length ≤ l.length := by
  have := len_jL (S := [32, 47, 32]) hw
  rwa [sps_join l] at this
theorem spw_cnt (l : List Nat) : (spw l).length ≤ l.length + 2 := by
  have := PyProof.Rows.split_le (SX.S l) (SX.S [32])
  rwa [split_w, List.length_map, SX.S_len] at this
theorem VB_fnd {A B : List (List Nat)} {t : Nat} (hA : A.length ≤ 60 + t) (hB : B.length ≤ 60 + t) (ok : ∀ w ∈ A, ∀ c ∈ w, c < 0x110000) : VB t 3 (fndP A B) := by
  have hk : 10 ^ 31 ≤ KB := by decide +kernel
  have hn : ∀ w : List Nat, (numS w).natAbs ≤ (t + 1) * KB := fun w => by
    have h1 := numS_abs w
    have h2 : 1 * KB ≤ (t + 1) * KB := Nat.mul_le_mul_right _ (by omega)
    generalize (10 : Nat) ^ 31 = X at hk h1
    omega
  unfold fndP
  refine VB.tup (by show 2 ≤ 60 + t; omega) fun q hq => ?_
  simp only [List.mem_cons, List.not_mem_nil, or_false] at hq
  rcases hq with rfl | rfl
  · refine VB.tup (by rw [List.length_map]; exact hA) fun q hq => ?_
    obtain ⟨w, hw, rfl⟩ := List.mem_map.mp hq
    refine VB.tup (n := 0) (by show 2 ≤ 60 + t; omega) fun q hq => ?_
    simp only [List.mem_cons, List.not_mem_nil, or_false] at hq
    rcases hq with rfl | rfl
    · refine VB.str ?_ ?_
      · rw [sOk_iff, cs_S]
        exact fun c hc => ok w hw c (List.mem_of_mem_take hc)
      · rw [cs_S, List.length_take]; omega
    · exact VB.int (hn _)
  · refine VB.tup (by rw [List.length_map]; exact hB) fun q hq => ?_
    obtain ⟨w, hw, rfl⟩ := List.mem_map.mp hq
    exact VB.int (hn _)
theorem isM_fnd (A B : List (List Nat)) : isM (fndP A B) = ((decide (1 ≤ A.length) && decide (A.length ≤ 6)) && ((A.all fun w => stB (rowP w)) && ((decide (B.length = 2) || decide (B.length = 3)) && B.all fun w => digB (.int (numS w))))) := by
  show ((decide (1 ≤ (A.map rowP).length) && decide ((A.map rowP).length ≤ 6)) && ((A.map rowP).all stB && ((decide ((B.map fun w => P.int (numS w)).length = 2) || decide ((B.map fun w => P.int (numS w)).length = 3)) && (B.map fun w => P.int (numS w)).all digB))) = _
  rw [List.length_map, List.length_map, List.all_map, List.all_map]; rfl
theorem isM_a {A B : List (List Nat)} (h : [47] ∈ A) : isM (fndP A B) = false := by
  have e : (A.all fun w => stB (rowP w)) = false := by
    rw [List.all_eq_false]
    exact ⟨[47], h, by rw [show stB (rowP [47]) = false by kernel_rfl]; decide⟩
  rw [isM_fnd, e, Bool.false_and, Bool.and_false]
theorem isM_b {A B : List (List Nat)} (h : [47] ∈ B) : isM (fndP A B) = false := by
  have e : (B.all fun w => digB (.int (numS w))) = false := by
    rw [List.all_eq_false]
    exact ⟨[47], h, by rw [show digB (.int (numS [47])) = false by kernel_rfl]; decide⟩
  rw [isM_fnd, e, Bool.and_false, Bool.and_false, Bool.and_false]
theorem isM_a0 {B : List (List Nat)} : isM (fndP [] B) = false := by rw [isM_fnd]; rfl
theorem isM_b0 {A : List (List Nat)} : isM (fndP A []) = false := by
  rw [isM_fnd]
  simp
theorem strs_w (A : List (List Nat)) : strsOf (A.map wP) = some (A.map SX.S) := by
  rw [show A.map wP = (A.map SX.S).map P.str by rw [List.map_map]; rfl, strsOf_map]
theorem count_S : ∀ A : List (List Nat), (A.map SX.S).count (SX.S [47]) = A.count [47]
  | [] => rfl
  | w :: A => by
    rw [List.map_cons, List.count_cons, List.count_cons, count_S A]
    have : (SX.S w == SX.S [47]) = (w == [47]) := by
      rw [Bool.eq_iff_iff, beq_iff_eq, beq_iff_eq]
      exact ⟨SX.S_inj, fun h => by rw [h]⟩
    rw [this]
theorem isTy_str (z : Str) : isTy "str" (.str z) = true := rfl
theorem count_w (A : List (List Nat)) : mCount (.lst (A.map wP)) [.str "/"] = some (.p (.int (A.count [47]))) := by
  show (match strsOf (A.map wP) with
    | some ns => some (D.p (.int (ns.count ("/" : Str))))
    | none => none) = _
  rw [strs_w, slS]
  dsimp only
  rw [count_S]
theorem flat_w : ∀ A : List (List Nat), flatL (A.map wP) = some (A.map fun w => L2.V.str (SX.S w))
  | [] => rfl
  | w :: A => by
    rw [List.map_cons, flatL, flat_w A]; rfl
theorem find_w {B : List (List Nat)} : ∀ (A : List (List Nat)) (k : Nat), [47] ∉ A → findV (L2.V.str (SX.S [47])) ((A ++ [47] :: B).map fun w => L2.V.str (SX.S w)) k = some (k + A.length)
  | [], k, _ => by
    have : L2.eqV (L2.V.str (SX.S [47])) (L2.V.str (SX.S [47])) = true := by simp [L2.eqV]
    show (if L2.eqV (L2.V.str (SX.S [47])) (L2.V.str (SX.S [47])) = true then some k else _) = _
    rw [if_pos this]; rfl
  | w :: A, k, h => by
    have hw : w ≠ [47] := fun z => h (z ▸ List.mem_cons_self)
    have : ¬ L2.eqV (L2.V.str (SX.S w)) (L2.V.str (SX.S [47])) = true := by
      simp only [L2.eqV, beq_iff_eq]
      exact fun z => hw (SX.S_inj z)
    show (if L2.eqV (L2.V.str (SX.S w)) (L2.V.str (SX.S [47])) = true then some k else findV _ ((A ++ [47] :: B).map fun w => L2.V.str (SX.S w)) (k + 1)) = _
    rw [if_neg this, find_w A (k + 1) fun z => h (List.mem_cons_of_mem _ z), List.length_cons]
    congr 1
    omega
theorem index_w {A B : List (List Nat)} (h : [47] ∉ A) : mIndexL (.lst ((A ++ [47] :: B).map wP)) [.str "/"] = some (.p (.int (A.length : Nat))) := by
  show (match flatP (.str "/"), flatL ((A ++ [47] :: B).map wP) with
    | some v, some vs => (findV v vs 0).map fun j => D.p (.int (j : Nat))
    | _, _ => none) = _
  rw [flat_w, slS]
  show (findV (L2.V.str (SX.S [47])) ((A ++ [47] :: B).map fun w => L2.V.str (SX.S w)) 0).map _ = _
  rw [find_w A 0 h, Nat.zero_add]; rfl
theorem tryW_rt {wd : Str → Option Str} {fb : EvS} {σ : Fr} {M M1 : Sto} {d : D} (h : fb σ M = .ok (.rt d) M1) : sTryW wd fb σ M = .ok (.rt d) M1 := by
  unfold sTryW; rw [h]
theorem tryW_er {wd : Str → Option Str} {fb : EvS} {σ σ1 : Fr} {M M1 : Sto} {c z : Str} (h : fb σ M = .er c none σ1 M1) (hz : wd c = some z) : sTryW wd fb σ M = .ok (.rt (.p (.str z))) M1 := by
  unfold sTryW; rw [h]
  dsimp only
  rw [hz]
theorem wd_t : wdT "InvalidText" = some "text value" := by kernel_rfl
local macro_rules
  | `(tactic| infer_instance) => `(tactic| first
    | with_reducible exact nil_ok
    | with_reducible exact cst_ok
    | with_reducible exact nil_s
    | with_reducible exact raise_ok
    | with_reducible exact x_val
    | with_reducible exact x_valn
    | with_reducible exact x_vall
    | with_reducible exact get_p
    | with_reducible exact get_n
    | (with_reducible apply getl_); first | with_reducible assumption | infer_instance
    | (with_reducible apply var_ok); first | with_reducible assumption | rfl
    | with_reducible exact getL0
    | with_reducible exact sNone_ok
    | (with_reducible apply sSome_ok) <;> infer_instance
    | (with_reducible apply eSl_ok) <;> infer_instance
    | (with_reducible apply rng_ok) <;> infer_instance
    | (with_reducible apply iof_str) <;> infer_instance
    | (with_reducible apply iof_nw) <;> infer_instance
    | (with_reducible apply iof_lst) <;> infer_instance
    | (with_reducible apply iof_tup) <;> infer_instance
    | with_reducible exact allP0
    | (with_reducible apply getLc) <;> infer_instance
    | (with_reducible apply allPc) <;> infer_instance
    | (with_reducible apply cons_v) <;> infer_instance
    | (with_reducible apply seq_nx) <;> infer_instance
    | (with_reducible apply seq_rt) <;> infer_instance
    | (with_reducible apply seq_er) <;> infer_instance
    | (with_reducible apply set_v) <;> infer_instance
    | (with_reducible apply setM_ok') <;> infer_instance
    | (with_reducible apply ret_ok) <;> infer_instance
    | (with_reducible apply exp_ok) <;> infer_instance
    | (with_reducible apply exp_er) <;> infer_instance
    | (with_reducible apply if_tt) <;> infer_instance
    | (with_reducible apply if_ff) <;> infer_instance
    | (with_reducible apply bof_ok) <;> infer_instance
    | (with_reducible apply btru_ok) <;> infer_instance
    | (with_reducible apply bnot_t) <;> infer_instance
    | (with_reducible apply bnot_f) <;> infer_instance
    | (with_reducible apply band_tt) <;> infer_instance
    | (with_reducible apply band_f) <;> infer_instance
    | (with_reducible apply bor_t) <;> infer_instance
    | (with_reducible apply bor_ff) <;> infer_instance
    | (with_reducible apply and_tt) <;> infer_instance
    | (with_reducible apply and_ff) <;> infer_instance
    | (with_reducible apply ife_tt) <;> infer_instance
    | (with_reducible apply ife_ff) <;> infer_instance
    | (with_reducible apply not_t) <;> infer_instance
    | (with_reducible apply not_f) <;> infer_instance
    | (with_reducible apply neg_ok) <;> infer_instance
    | (with_reducible apply isi_ok) <;> infer_instance
    | (with_reducible apply chain_t) <;> infer_instance
    | (with_reducible apply chain_f) <;> infer_instance
    | (with_reducible apply bin_ok) <;> infer_instance
    | (with_reducible apply callB_ok) <;> infer_instance
    | (with_reducible apply mt_ok) <;> infer_instance
    | (with_reducible apply call_ok) <;> infer_instance
    | (with_reducible apply call_er) <;> infer_instance
    | (with_reducible apply word_er) <;> infer_instance
    | (with_reducible apply lst_okN) <;> infer_instance
    | (with_reducible apply tup_okN) <;> infer_instance
    | (with_reducible apply par_ok) <;> infer_instance
    | with_reducible assumption
    | ((with_reducible apply lt_t); omega)
    | ((with_reducible apply lt_f); omega)
    | ((with_reducible apply le_t); omega)
    | ((with_reducible apply le_f); omega)
    | ((with_reducible apply gt_t); omega)
    | ((with_reducible apply gt_f); omega)
    | ((with_reducible apply ge_t); omega)
    | ((with_reducible apply ge_f); omega)
    | ((with_reducible apply eq_t); omega)
    | ((with_reducible apply eq_f); omega)
    | ((with_reducible apply ne_t); omega)
    | ((with_reducible apply ne_f); omega)
    | ((with_reducible apply o_mod_i); omega)
    | (with_reducible apply mul_small_l) <;> omega
    | (with_reducible apply mul_small_r) <;> omega
    | with_reducible exact isi1 | with_reducible exact isi2 | with_reducible exact isi3 | with_reducible exact isi4 | with_reducible exact isi5 | with_reducible exact isi6
    | ((with_reducible apply Nat.le_of_ble_eq_true); rfl)
    | rfl)

section
variable {M : Sto} {l : List Nat} {σ : Fr}
theorem sl_w1 {i : Nat} {w : List Nat} (h : w.length ≤ 900000) (h0 : σ[i]? = some (some (.p (wP w)))) : eSl (eVar i) sNone (sSome (eC (.int 1))) σ M = .ok (.p (wP (w.take 1))) M := by
  have e : oSl none (some 1) (wP w) = some (.p (wP (w.take 1))) := by
    show (if (SX.S w).length ≤ lim then some (D.p (.str (L2.cutS (SX.S w) none (some ((1 : Nat) : Int))))) else none) = _
    rw [if_pos (by rw [SX.S_len]; exact Nat.le_trans (show w.length ≤ 1000000 by omega) lim_mil), cut_take]
  infer_instance
theorem sl_w2 {i : Nat} {w : List Nat} (h : w.length ≤ 900000) (h0 : σ[i]? = some (some (.p (wP w)))) : eSl (eVar i) (sSome (eC (.int 1))) sNone σ M = .ok (.p (wP (w.drop 1))) M := by
  have e : oSl (some 1) none (wP w) = some (.p (wP (w.drop 1))) := by
    show (if (SX.S w).length ≤ lim then some (D.p (.str (L2.cutS (SX.S w) (some ((1 : Nat) : Int)) none))) else none) = _
    rw [if_pos (by rw [SX.S_len]; exact Nat.le_trans (show w.length ≤ 1000000 by omega) lim_mil), cut_drop]
  infer_instance
theorem rib_lc {A : List (List Nat)} {i : Nat} {F : Fn} {fi : EvI} (hi : fi σ M = .ok (A.map wP) M) (hA : A.length ≤ 900000) (hw : ∀ w ∈ A, w.length ≤ 900000) (hlt : i < σ.length)
    (hF : ∀ w ∈ A, ∀ M', F [.p (wP (w.drop 1))] M' = .ok (.p (.int (numS (w.drop 1)))) M') :
    eLc (.nm i) [i] fi bYes (eTup (aCons (eSl (eVar i) sNone (sSome (eC (.int 1)))) (aCons (eCall 1 F (aCons (eSl (eVar i) (sSome (eC (.int 1))) sNone) aNil)) aNil))) σ M = .ok (.nw (A.map rowP)) M := by
  have hq : A.map rowP = (A.map wP).map fun p => match p with
    | .str s => rowP (cs s)
    | _ => .non := by
    rw [List.map_map]
    refine List.map_congr_left fun w _ => ?_
    show rowP w = rowP (cs (SX.S w))
    rw [cs_S]
  rw [hq]
  refine eLc_map _ hi (by simp [tgS]) (fun p hp => ?_) (by rw [List.length_map]; exact Nat.le_trans (show A.length ≤ 1000000 by omega) lim_mil)
  obtain ⟨w, hwm, rfl⟩ := List.mem_map.mp hp
  refine ⟨_, x_nm, fun M' => ⟨.p (rowP w), ?_, by show D.p (rowP w) = D.p (rowP (cs (SX.S w))); rw [cs_S]⟩⟩
  have g : ((wipeF σ [i]).set i (some (.p (wP w))))[i]? = some (some (.p (wP w))) := by simp [wipeF, hlt]
  have e1 := sl_w1 (M := M') (hw w hwm) g
  have e2 := sl_w2 (M := M') (hw w hwm) g
  have e3 := hF w hwm M'
  exact tup_okN (M1 := M') (ds := [.p (wP (w.take 1)), .p (.int (numS (w.drop 1)))]) (cons_v e1 x_val (cons_v (call_ok (n := 1) (M1 := M') (cons_v e2 x_val nil_ok) rfl e3) x_val nil_ok)) rfl (Nat.le_of_ble_eq_true rfl)
theorem stp_lc {B : List (List Nat)} {i : Nat} {F : Fn} {fi : EvI} (hi : fi σ M = .ok (B.map wP) M) (hB : B.length ≤ 900000) (hlt : i < σ.length)
    (hF : ∀ w ∈ B, ∀ M', F [.p (wP w)] M' = .ok (.p (.int (numS w))) M') :
    eLc (.nm i) [i] fi bYes (eCall 1 F (aCons (eVar i) aNil)) σ M = .ok (.nw (B.map fun w => .int (numS w))) M := by
  have hq : (B.map fun w => P.int (numS w)) = (B.map wP).map fun p => match p with
    | .str s => .int (numS (cs s))
    | _ => .non := by
    rw [List.map_map]
    refine List.map_congr_left fun w _ => ?_
    show P.int (numS w) = P.int (numS (cs (SX.S w)))
    rw [cs_S]
  rw [hq]
  refine eLc_map _ hi (by simp [tgS]) (fun p hp => ?_) (by rw [List.length_map]; exact Nat.le_trans (show B.length ≤ 1000000 by omega) lim_mil)
  obtain ⟨w, hwm, rfl⟩ := List.mem_map.mp hp
  refine ⟨_, x_nm, fun M' => ⟨.p (.int (numS w)), ?_, by show D.p (P.int (numS w)) = D.p (P.int (numS (cs (SX.S w)))); rw [cs_S]⟩⟩
  have g : ((wipeF σ [i]).set i (some (.p (wP w))))[i]? = some (some (.p (wP w))) := by simp [wipeF, hlt]
  exact call_ok (n := 1) (M1 := M') (cons_v (var_ok g) x_val nil_ok) rfl (hF w hwm M')
theorem read_two (hl : l.length ≤ 800000) (ho : ∀ c ∈ l, c < 0x110000) {p q : List Nat} (hs : sps l = [p, q]) : F_read_machine [.p (wP l)] M = (if isM (fndP (spw p) (spw q)) = true then .ok (.p (fndP (spw p) (spw q))) M else .er "InvalidText" none M) := by
  have hp : p ∈ sps l := by rw [hs]; simp
  have hq : q ∈ sps l := by rw [hs]; simp
  have lp := sps_len hp
  have lq := sps_len hq
  have cp := spw_cnt p
  have cq := spw_cnt q
  have q2 : P.tru (.bl true) = some true := rfl
  have q1 : isiB "str" "str" = true := by decide
  have q3 : P.ty (wP l) = some "str" := rfl
  have ty : isTy "str" (wP l) = true := isTy_str _
  have typ : isTy "str" (wP p) = true := isTy_str _
  have tyq : isTy "str" (wP q) = true := isTy_str _
  have m1 := m_split_s (l := l) (by omega)
  rw [hs] at m1
  have m1 : mSplit (wP l) [.str " / "] = some (.nw [wP p, wP q]) := m1
  have m2 := m_split_w (l := p) (by omega)
  have m3 := m_split_w (l := q) (by omega)
  have vb : VB 800000 3 (fndP (spw p) (spw q)) := VB_fnd (by omega) (by omega) fun w hw c hc => ho c (sps_mem hp (spw_mem hw hc))
  have e5 := machine_any (M := M) vb (by decide)
  let s0 : Fr := [some (.p (wP l)), none, none, none, none]
  let s2 : Fr := [some (.p (wP l)), some (.p (.lst [wP p, wP q])), some (.p (.tup [.tup [], .tup []])), none, none]
  let s3 : Fr := [some (.p (wP l)), some (.p (.lst [wP p, wP q])), some (.p (.tup [.tup [], .tup []])), some (.p (ribP (spw p))), none]
  have t0 : ∀ σ : Fr, eTup aNil σ M = .ok (.p (.tup [])) M := fun σ => tup_okN (M1 := M) (ds := []) nil_ok rfl (by decide)
  have ixp : oIx (.lst [wP p, wP q]) (.int 0) = some (.p (wP p)) := oIxl0
  have ixq : oIx (.lst [wP p, wP q]) (.int 1) = some (.p (wP q)) := oIxl1
  have f1 : eIf (bTru (eIsi "str" (eVar 0))) (eMt "str" mSplit (eVar 0) (aCons (eC (.str " / ")) aNil)) (eLst aNil) s0 M = .ok (.nw [wP p, wP q]) M :=
    ife_tt (M1 := M) (btru_ok (isi_ok (var_ok rfl) get_p q3 q1) get_p rfl) (mt_ok (M1 := M) (M2 := M) (var_ok rfl) get_p ty (cons_v cst_ok x_val nil_ok) get_p rfl m1)
  have f2 : eTup (aCons (eTup aNil) (aCons (eTup aNil) aNil)) [some (.p (wP l)), some (.p (.lst [wP p, wP q])), none, none, none] M = .ok (.p (.tup [.tup [], .tup []])) M :=
    tup_okN (M1 := M) (ds := [.p (.tup []), .p (.tup [])]) (cons_v (t0 _) x_val (cons_v (t0 _) x_val nil_ok)) rfl (by decide)
  have f3 : eCB cTuple (aCons (eLc (.nm 4) [4] (iOf (eMt "str" mSplit (eBin oIx (eVar 1) (eC (.int 0))) (aCons (eC (.str " ")) aNil))) bYes (eTup (aCons (eSl (eVar 4) sNone (sSome (eC (.int 1)))) (aCons (eCall 1 F_number_of (aCons (eSl (eVar 4) (sSome (eC (.int 1))) sNone) aNil)) aNil)))) aNil) s2 M = .ok (.p (ribP (spw p))) M :=
    callB_ok (M1 := M) (ds := [.p (.lst ((spw p).map rowP))]) (cons_v (rib_lc (A := spw p) (iof_nw (mt_ok (M1 := M) (M2 := M) (bin_ok (var_ok rfl) cst_ok get_p get_p ixp) get_p typ (cons_v cst_ok x_val nil_ok) get_p rfl m2)) (by omega) (fun w hw => by have := spw_len hw; omega) (Nat.lt_of_lt_of_le (show 4 < 5 by decide) (Nat.le_refl 5))
      (fun w hw M' => sp_number_of (by have := spw_len hw; rw [List.length_drop]; omega))) x_valn nil_ok) rfl rfl
  have f4 : eTup (aCons (eVar 3) (aCons (eCB cTuple (aCons (eLc (.nm 4) [4] (iOf (eMt "str" mSplit (eBin oIx (eVar 1) (eC (.int 1))) (aCons (eC (.str " ")) aNil))) bYes (eCall 1 F_number_of (aCons (eVar 4) aNil))) aNil)) aNil)) s3 M = .ok (.p (fndP (spw p) (spw q))) M :=
    tup_okN (M1 := M) (ds := [.p (ribP (spw p)), .p (stpP (spw q))]) (cons_v (var_ok rfl) x_val (cons_v (callB_ok (M1 := M) (ds := [.p (.lst ((spw q).map fun w => .int (numS w)))]) (cons_v (stp_lc (B := spw q) (iof_nw (mt_ok (M1 := M) (M2 := M) (bin_ok (var_ok rfl) cst_ok get_p get_p ixq) get_p tyq (cons_v cst_ok x_val nil_ok) get_p rfl m3)) (by omega) (Nat.lt_of_lt_of_le (show 4 < 5 by decide) (Nat.le_refl 5))
      (fun w hw M' => sp_number_of (by have := spw_len hw; omega))) x_valn nil_ok) rfl rfl) x_val nil_ok)) rfl (Nat.le_of_ble_eq_true rfl)
  have el : cLen [.lst [wP p, wP q]] = some (.p (.int 2)) := rfl
  have pre : b_read_machine s0 M = sSeq (sIf (bNot (bTru (eCall 1 F_is_machine (aCons (eVar 2) aNil)))) (sSeq (sRaise "InvalidText") sNil) sNil) (sSeq (sRet (eVar 2)) sNil) [some (.p (wP l)), some (.p (.lst [wP p, wP q])), some (.p (fndP (spw p) (spw q))), some (.p (ribP (spw p))), none] M := by
    unfold b_read_machine
    refine seq_nx (M1 := M) (set_v f1 x_valn) ?_
    refine seq_nx (M1 := M) (set_v f2 x_val) ?_
    refine seq_nx (M1 := M) (if_tt (M1 := M) (bof_ok (bin_ok (callB_ok (M1 := M) (cons_v (var_ok rfl) x_val nil_ok) rfl el) cst_ok get_p get_p (eq_t rfl))) (seq_nx (set_v f3 x_val) (seq_nx (set_v f4 x_val) nil_s))) rfl
  have ec := call_ok (n := 1) (σ := [some (.p (wP l)), some (.p (.lst [wP p, wP q])), some (.p (fndP (spw p) (spw q))), some (.p (ribP (spw p))), none]) (M := M) (M1 := M) (fs := aCons (eVar 2) aNil) (cons_v (var_ok rfl) x_val nil_ok) rfl e5
  unfold F_read_machine; rw [fnB1]
  cases hm : isM (fndP (spw p) (spw q)) with
  | true =>
    rw [hm] at ec
    rw [if_pos rfl]
    refine lv_p (Eq.trans pre ?_)
    exact seq_nx (M1 := M) (if_ff (M1 := M) (bnot_f (btru_ok ec get_p rfl)) nil_s) (seq_rt (ret_ok (var_ok rfl)))
  | false =>
    rw [hm] at ec
    rw [if_neg Bool.false_ne_true]
    apply lv_er
    refine Eq.trans pre ?_
    exact seq_er (if_tt (M1 := M) (bnot_t (btru_ok ec get_p rfl)) (seq_er raise_ok))
theorem read_else {v : P} {ps : List P} (hv : eIf (bTru (eIsi "str" (eVar 0))) (eMt "str" mSplit (eVar 0) (aCons (eC (.str " / ")) aNil)) (eLst aNil) [some (.p v), none, none, none, none] M = .ok (.nw ps) M) (h2 : ps.length ≠ 2) : F_read_machine [.p v] M = .er "InvalidText" none M := by
  have t0 : ∀ σ : Fr, eTup aNil σ M = .ok (.p (.tup [])) M := fun σ => tup_okN (M1 := M) (ds := []) nil_ok rfl (by decide)
  have f2 : eTup (aCons (eTup aNil) (aCons (eTup aNil) aNil)) [some (.p v), some (.p (.lst ps)), none, none, none] M = .ok (.p (.tup [.tup [], .tup []])) M :=
    tup_okN (M1 := M) (ds := [.p (.tup []), .p (.tup [])]) (cons_v (t0 _) x_val (cons_v (t0 _) x_val nil_ok)) rfl (by decide)
  have vb : VB 0 3 (.tup [.tup [], .tup []]) := VB_of (by kernel_rfl)
  have e5 := machine_any (M := M) vb (by decide)
  rw [show isM (.tup [.tup [], .tup []]) = false by kernel_rfl] at e5
  have el : cLen [.lst ps] = some (.p (.int (ps.length : Int))) := rfl
  unfold F_read_machine; rw [fnB1]
  apply lv_er
  unfold b_read_machine
  refine seq_nx (M1 := M) (set_v hv x_valn) ?_
  refine seq_nx (M1 := M) (set_v f2 x_val) ?_
  refine seq_nx (M1 := M) (if_ff (M1 := M) (bof_ok (bin_ok (callB_ok (M1 := M) (cons_v (var_ok rfl) x_val nil_ok) rfl el) cst_ok get_p get_p (eq_f (by omega)))) nil_s) ?_
  exact seq_er (if_tt (M1 := M) (bnot_t (btru_ok (call_ok (n := 1) (M1 := M) (cons_v (var_ok rfl) x_val nil_ok) rfl e5) get_p rfl)) (seq_er raise_ok))
theorem lread_ok {v w : P} (h : F_read_machine [.p v] M = .ok (.p w) M) : F__law_read [.p v] M = .ok (.p w) M := by
  unfold F__law_read; rw [fnB1]; refine lv_p ?_; unfold b__law_read
  exact seq_rt (tryW_rt (seq_rt (ret_ok (call_ok (n := 1) (M1 := M) (cons_v (var_ok rfl) x_val nil_ok) rfl h))))
theorem ret_er {f : EvD} {M1 : Sto} {x : Str} {n : Option Int} (h : f σ M = .er x n M1) : sRet f σ M = .er x n σ M1 := by rw [x_sRet, h]; rfl
theorem lread_er {v : P} (h : F_read_machine [.p v] M = .er "InvalidText" none M) : F__law_read [.p v] M = .ok (.p (.str "text value")) M := by
  unfold F__law_read; rw [fnB1]; refine lv_p ?_; unfold b__law_read
  exact seq_rt (tryW_er (seq_er (ret_er (call_er (n := 1) (M1 := M) (cons_v (var_ok rfl) x_val nil_ok) rfl h))) wd_t)
end
end Ev

set_option linter.all false
set_option maxRecDepth 100000
set_option maxHeartbeats 400000
/-! k07: the law's own reading; texts of machines. -/
namespace Ev
open PySem
theorem join_ws {A : List (List Nat)} (h : (A.map (·.length)).sum + A.length ≤ 1000000) : mJoin (.str " ") [.lst (A.map wP)] = some (.p (wP (jw A))) := by
  have hs : ((A.map SX.S).map (·.length)).sum + (A.map SX.S).length * (" " : Str).length ≤ lim := by
    rw [SX.lens, List.length_map, show (" " : Str).length = 1 by decide +kernel, Nat.mul_one]
    exact Nat.le_trans h lim_mil
  show (match strsOf (A.map wP) with
    | some ys => if (ys.map fun s : Str => s.length).sum + ys.length * (" " : Str).length ≤ lim then some (D.p (.str (Txt.join " " ys))) else none
    | none => none) = _
  rw [strs_w]
  dsimp only
  rw [if_pos hs, sp1, SX.join_S]
theorem spw_weight (l : List Nat) : ((spw l).map (·.length)).sum + (spw l).length ≤ l.length + 1 := by
  have := PyProof.Rows.split_weight (SX.S l) (SX.S [32]) (by decide +kernel)
  rw [split_w, SX.lens, List.length_map, SX.S_len] at this
  exact this
theorem oAdd_w {a b : List Nat} (h : a.length + b.length ≤ 1000000) : oAdd (wP a) (wP b) = some (.p (wP (a ++ b))) := by
  have := oAdd_s (a := SX.S a) (b := SX.S b) (by rw [cs_S, cs_S]; exact Nat.le_trans h lim_mil)
  rwa [SX.S_cat] at this
theorem isM_mach {rb : List (Str × Int)} {st : List Int} (h : MOk rb st) (hv : VB 800000 3 (machP rb st)) : isM (machP rb st) = true := by
  have e1 := sp_is_machine (M := []) h
  have e2 := machine_any (M := []) hv (by decide)
  rw [e1] at e2
  cases hm : isM (machP rb st) with
  | true => rfl
  | false => rw [hm] at e2; simp at e2
local macro_rules
  | `(tactic| infer_instance) => `(tactic| first
    | with_reducible exact nil_ok
    | with_reducible exact cst_ok
    | with_reducible exact nil_s
    | with_reducible exact raise_ok
    | with_reducible exact x_val
    | with_reducible exact x_valn
    | with_reducible exact x_vall
    | with_reducible exact get_p
    | with_reducible exact get_n
    | (with_reducible apply getl_); first | with_reducible assumption | infer_instance
    | (with_reducible apply var_ok); first | with_reducible assumption | rfl
    | with_reducible exact getL0
    | with_reducible exact sNone_ok
    | (with_reducible apply sSome_ok) <;> infer_instance
    | (with_reducible apply eSl_ok) <;> infer_instance
    | (with_reducible apply rng_ok) <;> infer_instance
    | (with_reducible apply iof_str) <;> infer_instance
    | (with_reducible apply iof_nw) <;> infer_instance
    | (with_reducible apply iof_lst) <;> infer_instance
    | (with_reducible apply iof_tup) <;> infer_instance
    | with_reducible exact allP0
    | (with_reducible apply getLc) <;> infer_instance
    | (with_reducible apply allPc) <;> infer_instance
    | (with_reducible apply cons_v) <;> infer_instance
    | (with_reducible apply seq_nx) <;> infer_instance
    | (with_reducible apply seq_rt) <;> infer_instance
    | (with_reducible apply seq_er) <;> infer_instance
    | (with_reducible apply set_v) <;> infer_instance
    | (with_reducible apply setM_ok') <;> infer_instance
    | (with_reducible apply ret_ok) <;> infer_instance
    | (with_reducible apply exp_ok) <;> infer_instance
    | (with_reducible apply exp_er) <;> infer_instance
    | (with_reducible apply if_tt) <;> infer_instance
    | (with_reducible apply if_ff) <;> infer_instance
    | (with_reducible apply bof_ok) <;> infer_instance
    | (with_reducible apply btru_ok) <;> infer_instance
    | (with_reducible apply bnot_t) <;> infer_instance
    | (with_reducible apply bnot_f) <;> infer_instance
    | (with_reducible apply band_tt) <;> infer_instance
    | (with_reducible apply band_f) <;> infer_instance
    | (with_reducible apply bor_t) <;> infer_instance
    | (with_reducible apply bor_ff) <;> infer_instance
    | (with_reducible apply and_tt) <;> infer_instance
    | (with_reducible apply and_ff) <;> infer_instance
    | (with_reducible apply ife_tt) <;> infer_instance
    | (with_reducible apply ife_ff) <;> infer_instance
    | (with_reducible apply not_t) <;> infer_instance
    | (with_reducible apply not_f) <;> infer_instance
    | (with_reducible apply neg_ok) <;> infer_instance
    | (with_reducible apply isi_ok) <;> infer_instance
    | (with_reducible apply chain_t) <;> infer_instance
    | (with_reducible apply chain_f) <;> infer_instance
    | (with_reducible apply bin_ok) <;> infer_instance
    | (with_reducible apply callB_ok) <;> infer_instance
    | (with_reducible apply mt_ok) <;> infer_instance
    | (with_reducible apply call_ok) <;> infer_instance
    | (with_reducible apply call_er) <;> infer_instance
    | (with_reducible apply word_er) <;> infer_instance
    | (with_reducible apply lst_okN) <;> infer_instance
    | (with_reducible apply tup_okN) <;> infer_instance
    | (with_reducible apply par_ok) <;> infer_instance
    | with_reducible assumption
    | ((with_reducible apply lt_t); omega)
    | ((with_reducible apply lt_f); omega)
    | ((with_reducible apply le_t); omega)
    | ((with_reducible apply le_f); omega)
    | ((with_reducible apply gt_t); omega)
    | ((with_reducible apply gt_f); omega)
    | ((with_reducible apply ge_t); omega)
    | ((with_reducible apply ge_f); omega)
    | ((with_reducible apply eq_t); omega)
    | ((with_reducible apply eq_f); omega)
    | ((with_reducible apply ne_t); omega)
    | ((with_reducible apply ne_f); omega)
    | ((with_reducible apply o_mod_i); omega)
    | (with_reducible apply mul_small_l) <;> omega
    | (with_reducible apply mul_small_r) <;> omega
    | with_reducible exact isi1 | with_reducible exact isi2 | with_reducible exact isi3 | with_reducible exact isi4 | with_reducible exact isi5 | with_reducible exact isi6
    | ((with_reducible apply Nat.le_of_ble_eq_true); rfl)
    | rfl)

section
variable {M : Sto} {l : List Nat} {σ : Fr} {rb : List (Str × Int)} {st : List Int}
theorem due_one (hl : l.length ≤ 800000) (ho : ∀ c ∈ l, c < 0x110000) {a b : List (List Nat)} (hw : spw l = a ++ [47] :: b) (ha : [47] ∉ a) (hb : [47] ∉ b) :
    F__law_due [.p (wP l)] M = .ok (.p (if isM (fndP a b) = true then fndP a b else .str "text value")) M := by
  have q2 : P.tru (.bl true) = some true := rfl
  have q1 : isiB "str" "str" = true := by decide
  have q3 : P.ty (wP l) = some "str" := rfl
  have ty : isTy "str" (wP l) = true := isTy_str _
  have cn := spw_cnt l
  rw [hw, List.length_append, List.length_cons] at cn
  have m1 := m_split_w (l := l) (by omega)
  have mem : ∀ w ∈ a ++ [47] :: b, w ∈ spw l := fun w h => by rw [hw]; exact h
  have hlen : ∀ w ∈ a ++ [47] :: b, w.length ≤ l.length := fun w h => spw_len (mem w h)
  have hok : ∀ w ∈ a ++ [47] :: b, ∀ c ∈ w, c < 0x110000 := fun w h c hc => ho c (spw_mem (mem w h) hc)
  rw [hw] at m1
  have c1 : (a ++ [47] :: b).count [47] = 1 := by
    rw [List.count_append, List.count_cons_self, count0.mpr ha, count0.mpr hb]
  have m2 := count_w (a ++ [47] :: b)
  rw [c1] at m2
  have m3 := index_w (A := a) (B := b) ha
  have vb : VB 800000 3 (fndP a b) := VB_fnd (by omega) (by omega) fun w hw c hc => hok w (List.mem_append_left _ hw) c hc
  have e5 := good_any (M := M) vb (by decide) (by decide)
  let ws : P := .lst ((a ++ [47] :: b).map wP)
  have f1 : eMt "str" mSplit (eVar 0) (aCons (eC (.str " ")) aNil) [some (.p (wP l)), none, none, none, none, none] M = .ok (.nw ((a ++ [47] :: b).map wP)) M :=
    mt_ok (M1 := M) (M2 := M) (var_ok rfl) get_p ty (cons_v cst_ok x_val nil_ok) get_p rfl m1
  have f2 : eMt "list" mCount (eVar 1) (aCons (eC (.str "/")) aNil) [some (.p (wP l)), some (.p ws), none, none, none, none] M = .ok (.p (.int 1)) M :=
    mt_ok (M1 := M) (M2 := M) (p' := ws) (var_ok rfl) get_p rfl (cons_v cst_ok x_val nil_ok) get_p rfl m2
  have f3 : eMt "list" mIndexL (eVar 1) (aCons (eC (.str "/")) aNil) [some (.p (wP l)), some (.p ws), none, none, none, none] M = .ok (.p (.int (a.length : Int))) M :=
    mt_ok (M1 := M) (M2 := M) (p' := ws) (var_ok rfl) get_p rfl (cons_v cst_ok x_val nil_ok) get_p rfl m3
  have s1 : eSl (eVar 1) sNone (sSome (eVar 2)) [some (.p (wP l)), some (.p ws), some (.p (.int (a.length : Int))), none, none, none] M = .ok (.nw (a.map wP)) M := by
    have e : oSl none (some (a.length : Int)) ws = some (.nw (a.map wP)) := by
      show some (D.nw (cutP _ none (some (a.length : Int)))) = _
      rw [cutP_take, ← List.map_take, List.take_left]
    infer_instance
  have s2 : ∀ x3 : Option D, eSl (eVar 1) (sSome (eBin oAdd (eVar 2) (eC (.int 1)))) sNone [some (.p (wP l)), some (.p ws), some (.p (.int (a.length : Int))), x3, none, none] M = .ok (.nw (b.map wP)) M := fun x3 => by
    have hadd : oAdd (.int (a.length : Int)) (.int 1) = some (.p (.int ((a.length + 1 : Nat) : Int))) := by rw [o_add_i]; rfl
    have e : oSl (some ((a.length + 1 : Nat) : Int)) none ws = some (.nw (b.map wP)) := by
      show some (D.nw (cutP _ (some ((a.length + 1 : Nat) : Int)) none)) = _
      rw [cutP_drop, ← List.map_drop, show a ++ [47] :: b = (a ++ [[47]]) ++ b by simp, List.drop_left' (by simp)]
    infer_instance
  have f4 : eCB cTuple (aCons (eLc (.nm 5) [5] (iOf (eSl (eVar 1) sNone (sSome (eVar 2)))) bYes (eTup (aCons (eSl (eVar 5) sNone (sSome (eC (.int 1)))) (aCons (eCall 1 F__law_figures (aCons (eSl (eVar 5) (sSome (eC (.int 1))) sNone) aNil)) aNil)))) aNil) [some (.p (wP l)), some (.p ws), some (.p (.int (a.length : Int))), none, none, none] M = .ok (.p (ribP a)) M :=
    callB_ok (M1 := M) (ds := [.p (.lst (a.map rowP))]) (cons_v (rib_lc (A := a) (iof_nw s1) (by omega) (fun w hw => by have := hlen w (List.mem_append_left _ hw); omega) (Nat.lt_of_lt_of_le (show 5 < 6 by decide) (Nat.le_refl 6))
      (fun w hw M' => sp_figures (by have := hlen w (List.mem_append_left _ hw); rw [List.length_drop]; omega) (fun c hc => hok w (List.mem_append_left _ hw) c (List.mem_of_mem_drop hc)))) x_valn nil_ok) rfl rfl
  have f5 : eTup (aCons (eVar 3) (aCons (eCB cTuple (aCons (eLc (.nm 5) [5] (iOf (eSl (eVar 1) (sSome (eBin oAdd (eVar 2) (eC (.int 1)))) sNone)) bYes (eCall 1 F__law_figures (aCons (eVar 5) aNil))) aNil)) aNil)) [some (.p (wP l)), some (.p ws), some (.p (.int (a.length : Int))), some (.p (ribP a)), none, none] M = .ok (.p (fndP a b)) M :=
    tup_okN (M1 := M) (ds := [.p (ribP a), .p (stpP b)]) (cons_v (var_ok rfl) x_val (cons_v (callB_ok (M1 := M) (ds := [.p (.lst (b.map fun w => .int (numS w)))]) (cons_v (stp_lc (B := b) (iof_nw (s2 _)) (by omega) (Nat.lt_of_lt_of_le (show 5 < 6 by decide) (Nat.le_refl 6))
      (fun w hw M' => sp_figures (by have := hlen w (List.mem_append_right _ (List.mem_cons_of_mem _ hw)); omega) (hok w (List.mem_append_right _ (List.mem_cons_of_mem _ hw))))) x_valn nil_ok) rfl rfl) x_val nil_ok)) rfl (Nat.le_of_ble_eq_true rfl)
  have ec := call_ok (n := 1) (σ := [some (.p (wP l)), some (.p ws), some (.p (.int (a.length : Int))), some (.p (ribP a)), some (.p (fndP a b)), none]) (M := M) (M1 := M) (fs := aCons (eVar 4) aNil) (cons_v (var_ok rfl) x_val nil_ok) rfl e5
  unfold F__law_due; rw [fnB1]; refine lv_p ?_; unfold b__law_due
  refine seq_nx (M1 := M) (if_ff (M1 := M) (bnot_f (btru_ok (isi_ok (var_ok rfl) get_p q3 q1) get_p rfl)) nil_s) ?_
  refine seq_nx (M1 := M) (set_v f1 x_valn) ?_
  refine seq_nx (M1 := M) (if_ff (M1 := M) (bof_ok (bin_ok f2 cst_ok get_p get_p (ne_f rfl))) nil_s) ?_
  refine seq_nx (M1 := M) (set_v f3 x_val) ?_
  refine seq_nx (M1 := M) (set_v f4 x_val) ?_
  refine seq_nx (M1 := M) (set_v f5 x_val) ?_
  cases hm : isM (fndP a b) with
  | true =>
    rw [hm] at ec
    rw [if_pos rfl]
    exact seq_rt (ret_ok (ife_tt (M1 := M) (btru_ok ec get_p rfl) (var_ok rfl)))
  | false =>
    rw [hm] at ec
    rw [if_neg Bool.false_ne_true]
    exact seq_rt (ret_ok (ife_ff (M1 := M) (btru_ok ec get_p rfl) cst_ok))
theorem due_no (hl : l.length ≤ 800000) (hc : (spw l).count [47] ≠ 1) : F__law_due [.p (wP l)] M = .ok (.p (.str "text value")) M := by
  have q1 : isiB "str" "str" = true := by decide
  have q3 : P.ty (wP l) = some "str" := rfl
  have ty : isTy "str" (wP l) = true := isTy_str _
  have m1 := m_split_w (l := l) (by omega)
  have m2 := count_w (spw l)
  let ws : P := .lst ((spw l).map wP)
  have f1 : eMt "str" mSplit (eVar 0) (aCons (eC (.str " ")) aNil) [some (.p (wP l)), none, none, none, none, none] M = .ok (.nw ((spw l).map wP)) M :=
    mt_ok (M1 := M) (M2 := M) (var_ok rfl) get_p ty (cons_v cst_ok x_val nil_ok) get_p rfl m1
  have f2 : eMt "list" mCount (eVar 1) (aCons (eC (.str "/")) aNil) [some (.p (wP l)), some (.p ws), none, none, none, none] M = .ok (.p (.int ((spw l).count [47] : Nat))) M :=
    mt_ok (M1 := M) (M2 := M) (p' := ws) (var_ok rfl) get_p rfl (cons_v cst_ok x_val nil_ok) get_p rfl m2
  unfold F__law_due; rw [fnB1]; refine lv_p ?_; unfold b__law_due
  refine seq_nx (M1 := M) (if_ff (M1 := M) (bnot_f (btru_ok (isi_ok (var_ok rfl) get_p q3 q1) get_p rfl)) nil_s) ?_
  refine seq_nx (M1 := M) (set_v f1 x_valn) ?_
  exact seq_rt (if_tt (M1 := M) (bof_ok (bin_ok f2 cst_ok get_p get_p (ne_t (by omega)))) (seq_rt (ret_ok cst_ok)))
theorem due_not {v : P} {t : String} (h1 : v.ty = some t) (h2 : isiB t "str" = false) : F__law_due [.p v] M = .ok (.p (.str "text value")) M := by
  unfold F__law_due; rw [fnB1]; refine lv_p ?_; unfold b__law_due
  exact seq_rt (if_tt (M1 := M) (bnot_t (btru_ok (isi_ok (var_ok rfl) get_p h1 h2) get_p rfl)) (seq_rt (ret_ok cst_ok)))
theorem read_not {v : P} {t : String} (h1 : v.ty = some t) (h2 : isiB t "str" = false) : F__law_read [.p v] M = .ok (.p (.str "text value")) M := by
  refine lread_er (read_else (ps := []) ?_ (by decide))
  exact ife_ff (M1 := M) (btru_ok (isi_ok (var_ok rfl) get_p h1 h2) get_p rfl) (lst_okN (M1 := M) (ds := []) nil_ok rfl (by decide))
/-- both readings of a text go together -/
theorem same_read (hl : l.length ≤ 800000) (ho : ∀ c ∈ l, c < 0x110000) : ∃ v, F__law_read [.p (wP l)] M = .ok (.p v) M ∧ F__law_due [.p (wP l)] M = .ok (.p v) M ∧ datB v 60 = true := by
  have tv : datB (.str "text value") 60 = true := by kernel_rfl
  have els : (sps l).length ≠ 2 → F__law_read [.p (wP l)] M = .ok (.p (.str "text value")) M := fun h2 => by
    have q1 : isiB "str" "str" = true := by decide
    have q3 : P.ty (wP l) = some "str" := rfl
    have m1 := m_split_s (l := l) (by omega)
    refine lread_er (read_else (ps := (sps l).map wP) ?_ (by rw [List.length_map]; exact h2))
    exact ife_tt (M1 := M) (btru_ok (isi_ok (var_ok rfl) get_p q3 q1) get_p rfl) (mt_ok (M1 := M) (M2 := M) (var_ok rfl) get_p (isTy_str _) (cons_v cst_ok x_val nil_ok) get_p rfl m1)
  rcases cut_cases l with ⟨p, q, hs, hw, hp, hq⟩ | ⟨h1, h2⟩
  · have r := read_two (M := M) hl ho hs
    have d := due_one (M := M) hl ho hw hp hq
    cases hm : isM (fndP (spw p) (spw q)) with
    | true =>
      rw [hm, if_pos rfl] at r d
      refine ⟨_, lread_ok r, d, ?_⟩
      have pm : p ∈ sps l := by rw [hs]; simp
      have qm : q ∈ sps l := by rw [hs]; simp
      have lp := sps_len pm
      have lq := sps_len qm
      have cp := spw_cnt p
      have cq := spw_cnt q
      exact ((VB_fnd (A := spw p) (B := spw q) (t := 800000) (by omega) (by omega) fun w hw c hc => ho c (sps_mem pm (spw_mem hw hc))).mono (Nat.le_refl _) (show 3 ≤ 60 by decide)).dat
    | false =>
      rw [hm, if_neg Bool.false_ne_true] at r d
      exact ⟨_, lread_er r, d, tv⟩
  · have R : F__law_read [.p (wP l)] M = .ok (.p (.str "text value")) M := by
      rcases h1 with ⟨p, q, hs, h⟩ | h
      · have r := read_two (M := M) hl ho hs
        have hm : isM (fndP (spw p) (spw q)) = false := by
          rcases h with h | h
          · exact isM_a h
          · exact isM_b h
        rw [hm, if_neg Bool.false_ne_true] at r
        exact lread_er r
      · exact els h
    have Du : F__law_due [.p (wP l)] M = .ok (.p (.str "text value")) M := by
      rcases h2 with h | ⟨a, b, hw, ha, hb, hab⟩
      · exact due_no hl h
      · have d := due_one (M := M) hl ho hw ha hb
        have hm : isM (fndP a b) = false := by
          rcases hab with rfl | rfl
          · exact isM_a0
          · exact isM_b0
        rw [hm, if_neg Bool.false_ne_true] at d
        exact d
    exact ⟨_, R, Du, tv⟩
theorem same_any {v : P} {t n : Nat} (hv : VB t n v) (ht : t ≤ 700000) : ∃ w, F__law_read [.p v] M = .ok (.p w) M ∧ F__law_due [.p v] M = .ok (.p w) M ∧ datB w 60 = true := by
  have tv : datB (.str "text value") 60 = true := by kernel_rfl
  cases v with
  | str z =>
    obtain ⟨h1, h2⟩ := hv.str_
    have := same_read (M := M) (l := cs z) (by omega) (sOk_iff.mp h1)
    rw [show wP (cs z) = .str z by show P.str (SX.S (cs z)) = _; rw [S_cs]] at this
    exact this
  | non => exact ⟨_, read_not rfl (by decide), due_not rfl (by decide), tv⟩
  | bl _ => exact ⟨_, read_not rfl (by decide), due_not rfl (by decide), tv⟩
  | int _ => exact ⟨_, read_not rfl (by decide), due_not rfl (by decide), tv⟩
  | tup _ => exact ⟨_, read_not rfl (by decide), due_not rfl (by decide), tv⟩
  | lst _ => exact ⟨_, read_not rfl (by decide), due_not rfl (by decide), tv⟩
  | fn _ => cases hv.good
  | scr _ => cases hv.good
  | adr _ => cases hv.good
end
end Ev

set_option linter.all false
set_option maxRecDepth 100000
set_option maxHeartbeats 400000
/-! k07: texts of machines. -/
namespace Ev
open PySem
def wdA (x : Str × Int) : List Nat := cs x.1 ++ TL.numL x.2.toNat
def wdB (s : Int) : List Nat := TL.numL s.toNat
def wsA (rb : List (Str × Int)) : List (List Nat) := rb.map wdA
def wsB (st : List Int) : List (List Nat) := st.map wdB
def txtL (rb : List (Str × Int)) (st : List Int) : List Nat := jw (wsA rb ++ [47] :: wsB st)
theorem grt31 : GRT.toNat < 10 ^ 31 := by decide +kernel
theorem ten31 : (9 : Nat) < 10 ^ 31 := by decide +kernel
theorem sum_le {A : List (List Nat)} {k : Nat} (h : ∀ w ∈ A, w.length ≤ k) : (A.map (·.length)).sum ≤ A.length * k := by
  induction A with
  | nil => simp
  | cons a r ih =>
    have h1 := h a List.mem_cons_self
    have h2 := ih fun s hs => h s (List.mem_cons_of_mem _ hs)
    simp only [List.map_cons, List.sum_cons, List.length_cons]
    rw [Nat.succ_mul]
    omega
theorem jw_len : ∀ A : List (List Nat), (jw A).length ≤ (A.map (·.length)).sum + A.length
  | [] => Nat.le_refl _
  | [p] => by
    show p.length ≤ _
    simp
  | p :: q :: A => by
    have ih := jw_len (q :: A)
    show (p ++ ([32] ++ jw (q :: A))).length ≤ _
    have e : (p ++ ([32] ++ jw (q :: A))).length = p.length + (1 + (jw (q :: A)).length) := by simp; omega
    rw [e, List.map_cons, List.sum_cons, List.length_cons]
    omega
section
variable {rb : List (Str × Int)} {st : List Int}
theorem numL_le {n : Nat} (h : n < 10 ^ 31) : (TL.numL n).length ≤ 31 := TL.numL_len (by decide) h
theorem MOk.sz (h : MOk rb st) {x : Str × Int} (hx : x ∈ rb) : x.2.toNat < 10 ^ 31 ∧ ((x.2.toNat : Nat) : Int) = x.2 := by
  obtain ⟨_, h1, h2⟩ := h.c x hx
  have := grt31
  generalize (10 : Nat) ^ 31 = X at this ⊢
  constructor
  · have : x.2.toNat ≤ GRT.toNat := Int.toNat_le_toNat h2
    omega
  · omega
theorem MOk.stp (h : MOk rb st) {s : Int} (hs : s ∈ st) : s.toNat < 10 ^ 31 ∧ ((s.toNat : Nat) : Int) = s := by
  obtain ⟨h1, h2⟩ := h.s2 s hs
  have := ten31
  generalize (10 : Nat) ^ 31 = X at this ⊢
  constructor <;> omega
theorem wdA_form (h : MOk rb st) {x : Str × Int} (hx : x ∈ rb) : ∃ c, (c = 98 ∨ c = 103 ∨ c = 114) ∧ x.1 = SX.S [c] ∧ wdA x = c :: TL.numL x.2.toNat := by
  obtain ⟨c, e, hc⟩ := isLet_len (h.c x hx).1
  have hc : c ∈ cs "bgr" := hc
  rw [cs_bgr] at hc
  simp only [List.mem_cons, List.not_mem_nil, or_false] at hc
  refine ⟨c, hc, e, ?_⟩
  unfold wdA
  rw [e]; rfl
theorem goodA (h : MOk rb st) : ∀ w ∈ wsA rb, 32 ∉ w ∧ w ≠ [47] := by
  intro w hw
  obtain ⟨x, hx, rfl⟩ := List.mem_map.mp hw
  obtain ⟨c, hc, _, e⟩ := wdA_form h hx
  rw [e]
  constructor
  · intro z
    rcases List.mem_cons.mp z with z | z
    · omega
    · exact TL.numL_free (.inl (by decide)) z
  · intro z
    have := (List.cons.inj z).1
    omega
theorem goodB (h : MOk rb st) : ∀ w ∈ wsB st, 32 ∉ w ∧ w ≠ [47] := by
  intro w hw
  obtain ⟨s, hs, rfl⟩ := List.mem_map.mp hw
  constructor
  · exact TL.numL_free (.inl (by decide))
  · intro z
    have : 47 ∈ wdB s := by rw [z]; simp
    exact TL.numL_free (.inl (by decide)) this
theorem neA (h : MOk rb st) : wsA rb ≠ [] := by
  have := h.l1
  exact List.ne_nil_of_length_pos (by unfold wsA; rw [List.length_map]; omega)
theorem neB (h : MOk rb st) : wsB st ≠ [] := by
  have := h.s1
  exact List.ne_nil_of_length_pos (by unfold wsB; rw [List.length_map]; omega)
theorem lenA (h : MOk rb st) : ∀ w ∈ wsA rb, w.length ≤ 32 := by
  intro w hw
  obtain ⟨x, hx, rfl⟩ := List.mem_map.mp hw
  obtain ⟨c, hc, _, e⟩ := wdA_form h hx
  rw [e, List.length_cons]
  have := numL_le (h.sz hx).1
  omega
theorem lenB (h : MOk rb st) : ∀ w ∈ wsB st, w.length ≤ 31 := by
  intro w hw
  obtain ⟨s, hs, rfl⟩ := List.mem_map.mp hw
  exact numL_le (h.stp hs).1
theorem numL_code {n c : Nat} (h : c ∈ TL.numL n) : c < 0x110000 := by
  have := TL.numL_digits n c h
  omega
theorem okA (h : MOk rb st) : ∀ w ∈ wsA rb, ∀ c ∈ w, c < 0x110000 := by
  intro w hw c hc
  obtain ⟨x, hx, rfl⟩ := List.mem_map.mp hw
  obtain ⟨d, hd, _, e⟩ := wdA_form h hx
  rw [e] at hc
  rcases List.mem_cons.mp hc with rfl | hc
  · omega
  · exact numL_code hc
theorem txt_app (h : MOk rb st) : txtL rb st = jw (wsA rb) ++ ([32, 47, 32] ++ jw (wsB st)) := by
  unfold txtL
  show TL.joinL [32] (wsA rb ++ [47] :: wsB st) = _
  rw [joinL_app (neA h) (by simp)]
  have := neB h
  cases hb : wsB st with
  | nil => exact absurd hb this
  | cons y b => rfl
theorem txt_len (h : MOk rb st) : (txtL rb st).length ≤ 400 := by
  have a1 := jw_len (wsA rb)
  have a2 := jw_len (wsB st)
  have a3 := sum_le (lenA h)
  have a4 := sum_le (lenB h)
  have l1 : (wsA rb).length = rb.length := by simp [wsA]
  have l2 : (wsB st).length = st.length := by simp [wsB]
  have := h.l2
  have := h.s1
  rw [txt_app h, List.length_append, List.length_append]
  have : ([32, 47, 32] : List Nat).length = 3 := rfl
  omega
theorem mem_jw_inv : ∀ {A : List (List Nat)} {c : Nat}, c ∈ jw A → c = 32 ∨ ∃ w ∈ A, c ∈ w
  | [], _, h => by cases h
  | [p], c, h => .inr ⟨p, by simp, h⟩
  | p :: q :: A, c, h => by
    have h : c ∈ p ++ ([32] ++ jw (q :: A)) := h
    rcases List.mem_append.mp h with h | h
    · exact .inr ⟨p, by simp, h⟩
    · rcases List.mem_append.mp h with h | h
      · exact .inl (by simpa using h)
      · rcases mem_jw_inv h with h | ⟨w, hw, hc⟩
        · exact .inl h
        · exact .inr ⟨w, List.mem_cons_of_mem _ hw, hc⟩
theorem txt_ok (h : MOk rb st) : ∀ c ∈ txtL rb st, c < 0x110000 := by
  intro c hc
  rcases mem_jw_inv hc with rfl | ⟨w, hw, hc⟩
  · decide
  · rcases List.mem_append.mp hw with hw | hw
    · exact okA h w hw c hc
    · rcases List.mem_cons.mp hw with rfl | hw
      · rw [List.mem_singleton.mp hc]; decide
      · obtain ⟨s, hs, rfl⟩ := List.mem_map.mp hw
        exact numL_code hc
theorem fnd_mach (h : MOk rb st) : fndP (wsA rb) (wsB st) = machP rb st := by
  have e1 : (wsA rb).map rowP = rb.map stP := by
    unfold wsA
    rw [List.map_map]
    refine List.map_congr_left fun x hx => ?_
    obtain ⟨c, hc, e, ew⟩ := wdA_form h hx
    obtain ⟨h1, h2⟩ := h.sz hx
    show P.tup [wP ((wdA x).take 1), .int (numS ((wdA x).drop 1))] = P.tup [.str x.1, .int x.2]
    rw [ew]
    show P.tup [.str (SX.S [c]), .int (numS (TL.numL x.2.toNat))] = _
    rw [numS_num h1, h2, ← e]
  have e2 : ((wsB st).map fun w => P.int (numS w)) = st.map P.int := by
    unfold wsB
    rw [List.map_map]
    refine List.map_congr_left fun s hs => ?_
    obtain ⟨h1, h2⟩ := h.stp hs
    show P.int (numS (TL.numL s.toNat)) = P.int s
    rw [numS_num h1, h2]
  unfold fndP ribP stpP
  rw [e1, e2]; rfl
theorem c_str_st (h : MOk rb st) {s : Int} (hs : s ∈ st) : cStr [.int s] = some (.p (wP (wdB s))) := by
  obtain ⟨h1, h2⟩ := h.stp hs
  have := c_str_n h1
  rwa [h2] at this
theorem c_str_sz (h : MOk rb st) {x : Str × Int} (hx : x ∈ rb) : cStr [.int x.2] = some (.p (wP (TL.numL x.2.toNat))) := by
  obtain ⟨h1, h2⟩ := h.sz hx
  have := c_str_n h1
  rwa [h2] at this
theorem o_wdA (h : MOk rb st) {x : Str × Int} (hx : x ∈ rb) : oAdd (.str x.1) (wP (TL.numL x.2.toNat)) = some (.p (wP (wdA x))) := by
  obtain ⟨c, hc, e, ew⟩ := wdA_form h hx
  have h1 := numL_le (h.sz hx).1
  have := oAdd_w (a := [c]) (b := TL.numL x.2.toNat) (by simp; omega)
  rw [ew, e]
  exact this
end
local macro_rules
  | `(tactic| infer_instance) => `(tactic| first
    | with_reducible exact nil_ok
    | with_reducible exact cst_ok
    | with_reducible exact nil_s
    | with_reducible exact raise_ok
    | with_reducible exact x_val
    | with_reducible exact x_valn
    | with_reducible exact x_vall
    | with_reducible exact get_p
    | with_reducible exact get_n
    | (with_reducible apply getl_); first | with_reducible assumption | infer_instance
    | (with_reducible apply var_ok); first | with_reducible assumption | rfl
    | with_reducible exact getL0
    | with_reducible exact sNone_ok
    | (with_reducible apply sSome_ok) <;> infer_instance
    | (with_reducible apply eSl_ok) <;> infer_instance
    | (with_reducible apply rng_ok) <;> infer_instance
    | (with_reducible apply iof_str) <;> infer_instance
    | (with_reducible apply iof_nw) <;> infer_instance
    | (with_reducible apply iof_lst) <;> infer_instance
    | (with_reducible apply iof_tup) <;> infer_instance
    | with_reducible exact allP0
    | (with_reducible apply getLc) <;> infer_instance
    | (with_reducible apply allPc) <;> infer_instance
    | (with_reducible apply cons_v) <;> infer_instance
    | (with_reducible apply seq_nx) <;> infer_instance
    | (with_reducible apply seq_rt) <;> infer_instance
    | (with_reducible apply seq_er) <;> infer_instance
    | (with_reducible apply set_v) <;> infer_instance
    | (with_reducible apply setM_ok') <;> infer_instance
    | (with_reducible apply ret_ok) <;> infer_instance
    | (with_reducible apply exp_ok) <;> infer_instance
    | (with_reducible apply exp_er) <;> infer_instance
    | (with_reducible apply if_tt) <;> infer_instance
    | (with_reducible apply if_ff) <;> infer_instance
    | (with_reducible apply bof_ok) <;> infer_instance
    | (with_reducible apply btru_ok) <;> infer_instance
    | (with_reducible apply bnot_t) <;> infer_instance
    | (with_reducible apply bnot_f) <;> infer_instance
    | (with_reducible apply band_tt) <;> infer_instance
    | (with_reducible apply band_f) <;> infer_instance
    | (with_reducible apply bor_t) <;> infer_instance
    | (with_reducible apply bor_ff) <;> infer_instance
    | (with_reducible apply and_tt) <;> infer_instance
    | (with_reducible apply and_ff) <;> infer_instance
    | (with_reducible apply ife_tt) <;> infer_instance
    | (with_reducible apply ife_ff) <;> infer_instance
    | (with_reducible apply not_t) <;> infer_instance
    | (with_reducible apply not_f) <;> infer_instance
    | (with_reducible apply neg_ok) <;> infer_instance
    | (with_reducible apply isi_ok) <;> infer_instance
    | (with_reducible apply chain_t) <;> infer_instance
    | (with_reducible apply chain_f) <;> infer_instance
    | (with_reducible apply bin_ok) <;> infer_instance
    | (with_reducible apply callB_ok) <;> infer_instance
    | (with_reducible apply mt_ok) <;> infer_instance
    | (with_reducible apply call_ok) <;> infer_instance
    | (with_reducible apply call_er) <;> infer_instance
    | (with_reducible apply word_er) <;> infer_instance
    | (with_reducible apply lst_okN) <;> infer_instance
    | (with_reducible apply tup_okN) <;> infer_instance
    | (with_reducible apply par_ok) <;> infer_instance
    | with_reducible assumption
    | ((with_reducible apply lt_t); omega)
    | ((with_reducible apply lt_f); omega)
    | ((with_reducible apply le_t); omega)
    | ((with_reducible apply le_f); omega)
    | ((with_reducible apply gt_t); omega)
    | ((with_reducible apply gt_f); omega)
    | ((with_reducible apply ge_t); omega)
    | ((with_reducible apply ge_f); omega)
    | ((with_reducible apply eq_t); omega)
    | ((with_reducible apply eq_f); omega)
    | ((with_reducible apply ne_t); omega)
    | ((with_reducible apply ne_f); omega)
    | ((with_reducible apply o_mod_i); omega)
    | (with_reducible apply mul_small_l) <;> omega
    | (with_reducible apply mul_small_r) <;> omega
    | with_reducible exact isi1 | with_reducible exact isi2 | with_reducible exact isi3 | with_reducible exact isi4 | with_reducible exact isi5 | with_reducible exact isi6
    | ((with_reducible apply Nat.le_of_ble_eq_true); rfl)
    | rfl)

section
variable {M : Sto} {σ : Fr} {rb : List (Str × Int)} {st : List Int}
theorem lc_A (h : MOk rb st) (h0 : σ[0]? = some (some (.p (machP rb st)))) (hl : 4 < σ.length) : eLc (.tu [(.nm 2), (.nm 3)]) [2, 3] (iOf (eBin oIx (eVar 0) (eC (.int 0)))) bYes (eBin oAdd (eVar 2) (eCB cStr (aCons (eVar 3) aNil))) σ M = .ok (.nw ((wsA rb).map wP)) M := by
  have l2 : 2 < σ.length := by omega
  have l3 : 3 < σ.length := by omega
  have hq : (wsA rb).map wP = (rb.map stP).map (fun p => match p with
    | .tup [.str c, .int n] => wP (wdA (c, n))
    | _ => .non) := by
    unfold wsA
    rw [List.map_map, List.map_map]; rfl
  rw [hq]
  refine eLc_map _ (iof_tup (bin_ok (var_ok h0) cst_ok get_p get_p oIx0m)) rfl (fun p hp => ?_) (by have := h.ll; simpa using this)
  obtain ⟨x, hx, rfl⟩ := List.mem_map.mp hp
  refine ⟨_, tu2, fun M' => ⟨.p (wP (wdA x)), ?_, rfl⟩⟩
  exact bin_ok (M1 := M') (var_ok (d := .p (.str x.1)) (by simp [wipeF, l2])) (callB_ok (M1 := M') (cons_v (var_ok (d := .p (.int x.2)) (by simp [wipeF, l3])) x_val nil_ok) rfl (c_str_sz h hx)) get_p get_p (o_wdA h hx)
theorem lc_B (h : MOk rb st) (h0 : σ[0]? = some (some (.p (machP rb st)))) (hl : 4 < σ.length) : eLc (.nm 4) [4] (iOf (eBin oIx (eVar 0) (eC (.int 1)))) bYes (eCB cStr (aCons (eVar 4) aNil)) σ M = .ok (.nw ((wsB st).map wP)) M := by
  have hq : (wsB st).map wP = (st.map P.int).map (fun p => match p with
    | .int s => wP (wdB s)
    | _ => .non) := by
    unfold wsB
    rw [List.map_map, List.map_map]; rfl
  rw [hq]
  refine eLc_map _ (iof_tup (bin_ok (var_ok h0) cst_ok get_p get_p oIx1m)) rfl (fun p hp => ?_) (by have := h.s1; exact lim_n (by simp; omega))
  obtain ⟨s, hs, rfl⟩ := List.mem_map.mp hp
  refine ⟨_, x_nm, fun M' => ⟨.p (wP (wdB s)), ?_, rfl⟩⟩
  exact callB_ok (M1 := M') (cons_v (var_ok (d := .p (.int s)) (by simp [wipeF, hl])) x_val nil_ok) rfl (c_str_st h hs)
theorem sp_law_text (h : MOk rb st) : F__law_text [.p (machP rb st)] M = .ok (.p (wP (txtL rb st))) M := by
  have l1 : (wsA rb).length = rb.length := by simp [wsA]
  have l2 : (wsB st).length = st.length := by simp [wsB]
  have h2 := h.l2
  have h3 := h.s1
  have a3 := sum_le (lenA h)
  have a4 := sum_le (lenB h)
  have e1 : oAdd (.lst ((wsA rb).map wP)) (.lst [wP [47]]) = some (.nw ((wsA rb ++ [[47]]).map wP)) := by
    rw [List.map_append]
    exact oAdd_l (lim_n (by simp; omega))
  have e2 : oAdd (.lst ((wsA rb ++ [[47]]).map wP)) (.lst ((wsB st).map wP)) = some (.nw ((wsA rb ++ [47] :: wsB st).map wP)) := by
    rw [show wsA rb ++ [47] :: wsB st = (wsA rb ++ [[47]]) ++ wsB st by simp, List.map_append (l₁ := wsA rb ++ [[47]])]
    exact oAdd_l (lim_n (by simp; omega))
  have e3 := join_ws (A := wsA rb ++ [47] :: wsB st) (by simp at a3 a4 ⊢; omega)
  unfold F__law_text; rw [fnB1]; refine lv_p ?_; unfold b__law_text
  refine seq_nx (M1 := M) (set_v (lc_A h rfl (Nat.lt_of_lt_of_le (show 4 < 5 by decide) (Nat.le_refl 5))) x_valn) ?_
  have t1 : ∀ σ : Fr, eLst (aCons (eC (.str "/")) aNil) σ M = .ok (.nw [wP [47]]) M := fun σ => by
    have : eC (.str "/") σ M = .ok (.p (wP [47])) M := by rw [slS]; rfl
    exact lst_okN (M1 := M) (ds := [.p (wP [47])]) (cons_v this x_val nil_ok) rfl (Nat.le_of_ble_eq_true rfl)
  exact seq_rt (ret_ok (mt_ok (M1 := M) (M2 := M) cst_ok get_p (isTy_str _) (cons_v (bin_ok (bin_ok (var_ok rfl) (t1 _) get_p get_n e1) (lc_B h rfl (Nat.lt_of_lt_of_le (show 4 < 5 by decide) (Nat.le_refl 5))) get_n get_n e2) x_valn nil_ok) get_p rfl e3))
theorem sp_machine_text (h : MOk rb st) : F_machine_text [.p (machP rb st)] M = .ok (.p (wP (txtL rb st))) M := by
  have l1 : (wsA rb).length = rb.length := by simp [wsA]
  have l2 : (wsB st).length = st.length := by simp [wsB]
  have h2 := h.l2
  have h3 := h.s1
  have a3 := sum_le (lenA h)
  have a4 := sum_le (lenB h)
  have e1 := join_ws (A := wsA rb) (by omega)
  have e2 := join_ws (A := wsB st) (by omega)
  have tl := txt_len h
  have ta := txt_app h
  have e0 := sp_need_machine (M := M) h
  rw [ta, List.length_append, List.length_append] at tl
  have e3 : oAdd (wP (jw (wsA rb))) (.str " / ") = some (.p (wP (jw (wsA rb) ++ [32, 47, 32]))) := by
    rw [sp3]
    exact oAdd_w (by simp at tl ⊢; omega)
  have e4 : oAdd (wP (jw (wsA rb) ++ [32, 47, 32])) (wP (jw (wsB st))) = some (.p (wP (txtL rb st))) := by
    rw [ta, ← List.append_assoc]
    exact oAdd_w (by simp at tl ⊢; omega)
  unfold F_machine_text; rw [fnB1]; refine lv_p ?_; unfold b_machine_text
  refine seq_nx (M1 := M) (exp_ok (call_ok (n := 1) (M1 := M) (cons_v (var_ok rfl) x_val nil_ok) rfl e0)) ?_
  refine seq_nx (M1 := M) (set_v (mt_ok (M1 := M) (M2 := M) cst_ok get_p (isTy_str _) (cons_v (lc_A h rfl (Nat.lt_of_lt_of_le (show 4 < 5 by decide) (Nat.le_refl 5))) x_valn nil_ok) get_p rfl e1) x_val) ?_
  exact seq_rt (ret_ok (bin_ok (bin_ok (var_ok rfl) cst_ok get_p get_p e3) (mt_ok (M1 := M) (M2 := M) cst_ok get_p (isTy_str _) (cons_v (lc_B h rfl (Nat.lt_of_lt_of_le (show 4 < 5 by decide) (Nat.le_refl 5))) x_valn nil_ok) get_p rfl e2) get_p get_p e4))
theorem read_text (h : MOk rb st) : F_read_machine [.p (wP (txtL rb st))] M = .ok (.p (machP rb st)) M := by
  have tl := txt_len h
  have hs : sps (txtL rb st) = [jw (wsA rb), jw (wsB st)] := by
    rw [txt_app h]
    exact sps_two (neA h) (neB h) (goodA h) (goodB h)
  have r := read_two (M := M) (l := txtL rb st) (by omega) (txt_ok h) hs
  have wa : spw (jw (wsA rb)) = wsA rb := spw_uniq (neA h) fun p hp => (goodA h p hp).1
  have wb : spw (jw (wsB st)) = wsB st := spw_uniq (neB h) fun p hp => (goodB h p hp).1
  rw [wa, wb, fnd_mach h] at r
  have vb : VB 800000 3 (machP rb st) := by
    rw [← fnd_mach h]
    have := h.l2
    have := h.s1
    exact VB_fnd (by unfold wsA; rw [List.length_map]; omega) (by unfold wsB; rw [List.length_map]; omega) (okA h)
  rw [isM_mach h vb, if_pos rfl] at r
  exact r
theorem mach_dat (h : MOk rb st) : datB (machP rb st) 60 = true := by
  rw [← fnd_mach h]
  have := h.l2
  have := h.s1
  exact ((VB_fnd (A := wsA rb) (B := wsB st) (t := 0) (by unfold wsA; rw [List.length_map]; omega) (by unfold wsB; rw [List.length_map]; omega) (okA h)).mono (Nat.le_refl _) (show 3 ≤ 60 by decide)).dat
end
end Ev

set_option linter.all false
set_option maxRecDepth 100000
set_option maxHeartbeats 400000
/-! k07: texts spoilt. -/
namespace Ev
open PySem
def OkT (n : Nat) (l : List Nat) : Prop := (∀ c ∈ l, c < 0x110000) ∧ l.length ≤ n
def shB (n : Nat) : P → Bool
  | .str z => decide ((cs z).length ≤ n) && sOk z
  | _ => false
theorem sh_of {n : Nat} {q : P} (h : shB n q = true) : ∃ x, q = wP x ∧ OkT n x := by
  cases q with
  | str z =>
    have h : (decide ((cs z).length ≤ n) && sOk z) = true := h
    rw [Bool.and_eq_true, decide_eq_true_eq] at h
    exact ⟨cs z, by show P.str z = P.str (SX.S (cs z)); rw [S_cs], sOk_iff.mp h.2, h.1⟩
  | _ => cases h
def addsL : List P := [.str " ", .str "0", .str "1", .str "9", .str "/", .str "-", .str "b", .str "
", .str "g1 "]
def r31 : P := .str ("r" ++ strRepN "9" 31)
def somW : List P := [.str "0", .str "b0", .str "b01", .str "w1", .str "10", .str "b", r31, .str "/", .str "", .str "3", .str "bg1", .str "B1", .str "g1.0"]
theorem adds_all : addsL.all (shB 3) = true := by kernel_rfl
theorem somW_all : somW.all (shB 32) = true := by kernel_rfl
theorem mul_931 : oMul (.str "9") (.int 31) = some (.p (.str (strRepN "9" 31))) := by kernel_rfl
theorem add_r31 : oAdd (.str "r") (.str (strRepN "9" 31)) = some (.p r31) := by
  refine oAdd_s ?_
  exact Nat.le_trans (show (cs "r").length + (cs (strRepN "9" 31)).length ≤ 1000 by decide +kernel) lim_big
theorem sum_take (A : List (List Nat)) (j : Nat) : ((A.take j).map (·.length)).sum ≤ (A.map (·.length)).sum ∧ ((A.drop j).map (·.length)).sum ≤ (A.map (·.length)).sum := by
  have e : (A.map (·.length)).sum = ((A.take j).map (·.length)).sum + ((A.drop j).map (·.length)).sum := by
    conv => lhs; rw [← List.take_append_drop j A, List.map_append, List.sum_append]
  omega
theorem lv_pG {b : EvS} {σ : Fr} {M M2 : Sto} {x : MO} {p : P} (h : b σ M = .ok (.rt (.p p)) (M2 ++ [x])) (hl : M2.length = M.length) : leave M.length (b σ M) = .ok (.p p) M2 := by
  rw [h, x_lv_p, ← hl, List.take_left]
theorem ok_jw {A : List (List Nat)} (h : ∀ w ∈ A, ∀ c ∈ w, c < 0x110000) : ∀ c ∈ jw A, c < 0x110000 := by
  intro c hc
  rcases mem_jw_inv hc with rfl | ⟨w, hw, hc⟩
  · decide
  · exact h w hw c hc
theorem st_setG {M : Sto} {x y : MO} {n : Nat} (h : M.length = n) : (M ++ [x]).set n y = M ++ [y] := by
  subst h
  rw [List.set_append_right _ _ (Nat.le_refl _), Nat.sub_self]; rfl
theorem st_getG {M : Sto} {x : MO} {n : Nat} (h : M.length = n) : (M ++ [x])[n]? = some x := by
  subst h
  simp
local macro_rules
  | `(tactic| infer_instance) => `(tactic| first
    | with_reducible exact nil_ok
    | with_reducible exact cst_ok
    | with_reducible exact nil_s
    | with_reducible exact raise_ok
    | with_reducible exact x_val
    | with_reducible exact x_valn
    | with_reducible exact x_vall
    | with_reducible exact get_p
    | with_reducible exact get_n
    | (with_reducible apply getl_); first | with_reducible assumption | infer_instance
    | (with_reducible apply var_ok); first | with_reducible assumption | rfl
    | with_reducible exact getL0
    | with_reducible exact sNone_ok
    | (with_reducible apply sSome_ok) <;> infer_instance
    | (with_reducible apply eSl_ok) <;> infer_instance
    | (with_reducible apply rng_ok) <;> infer_instance
    | (with_reducible apply iof_str) <;> infer_instance
    | (with_reducible apply iof_nw) <;> infer_instance
    | (with_reducible apply iof_lst) <;> infer_instance
    | (with_reducible apply iof_tup) <;> infer_instance
    | with_reducible exact allP0
    | (with_reducible apply getLc) <;> infer_instance
    | (with_reducible apply allPc) <;> infer_instance
    | (with_reducible apply cons_v) <;> infer_instance
    | (with_reducible apply seq_nx) <;> infer_instance
    | (with_reducible apply seq_rt) <;> infer_instance
    | (with_reducible apply seq_er) <;> infer_instance
    | (with_reducible apply set_v) <;> infer_instance
    | (with_reducible apply setM_ok') <;> infer_instance
    | (with_reducible apply ret_ok) <;> infer_instance
    | (with_reducible apply exp_ok) <;> infer_instance
    | (with_reducible apply exp_er) <;> infer_instance
    | (with_reducible apply if_tt) <;> infer_instance
    | (with_reducible apply if_ff) <;> infer_instance
    | (with_reducible apply bof_ok) <;> infer_instance
    | (with_reducible apply btru_ok) <;> infer_instance
    | (with_reducible apply bnot_t) <;> infer_instance
    | (with_reducible apply bnot_f) <;> infer_instance
    | (with_reducible apply band_tt) <;> infer_instance
    | (with_reducible apply band_f) <;> infer_instance
    | (with_reducible apply bor_t) <;> infer_instance
    | (with_reducible apply bor_ff) <;> infer_instance
    | (with_reducible apply and_tt) <;> infer_instance
    | (with_reducible apply and_ff) <;> infer_instance
    | (with_reducible apply ife_tt) <;> infer_instance
    | (with_reducible apply ife_ff) <;> infer_instance
    | (with_reducible apply not_t) <;> infer_instance
    | (with_reducible apply not_f) <;> infer_instance
    | (with_reducible apply neg_ok) <;> infer_instance
    | (with_reducible apply isi_ok) <;> infer_instance
    | (with_reducible apply chain_t) <;> infer_instance
    | (with_reducible apply chain_f) <;> infer_instance
    | (with_reducible apply bin_ok) <;> infer_instance
    | (with_reducible apply callB_ok) <;> infer_instance
    | (with_reducible apply mt_ok) <;> infer_instance
    | (with_reducible apply call_ok) <;> infer_instance
    | (with_reducible apply call_er) <;> infer_instance
    | (with_reducible apply word_er) <;> infer_instance
    | (with_reducible apply lst_okN) <;> infer_instance
    | (with_reducible apply tup_okN) <;> infer_instance
    | (with_reducible apply par_ok) <;> infer_instance
    | with_reducible assumption
    | ((with_reducible apply lt_t); omega)
    | ((with_reducible apply lt_f); omega)
    | ((with_reducible apply le_t); omega)
    | ((with_reducible apply le_f); omega)
    | ((with_reducible apply gt_t); omega)
    | ((with_reducible apply gt_f); omega)
    | ((with_reducible apply ge_t); omega)
    | ((with_reducible apply ge_f); omega)
    | ((with_reducible apply eq_t); omega)
    | ((with_reducible apply eq_f); omega)
    | ((with_reducible apply ne_t); omega)
    | ((with_reducible apply ne_f); omega)
    | ((with_reducible apply o_mod_i); omega)
    | (with_reducible apply mul_small_l) <;> omega
    | (with_reducible apply mul_small_r) <;> omega
    | with_reducible exact isi1 | with_reducible exact isi2 | with_reducible exact isi3 | with_reducible exact isi4 | with_reducible exact isi5 | with_reducible exact isi6
    | ((with_reducible apply Nat.le_of_ble_eq_true); rfl)
    | rfl)

section
variable {M : Sto} {l : List Nat} {σ : Fr} {k : Nat}
theorem sl_ts {i : Nat} {fe : EvD} (hl : l.length ≤ 900000) (h1 : σ[1]? = some (some (.p (wP l)))) (h : fe σ M = .ok (.p (.int (i : Int))) M) : eSl (eVar 1) sNone (sSome fe) σ M = .ok (.p (wP (l.take i))) M := by
  have e : oSl none (some (i : Int)) (wP l) = some (.p (wP (l.take i))) := by
    show (if (SX.S l).length ≤ lim then some (D.p (.str (L2.cutS (SX.S l) none (some (i : Int))))) else none) = _
    rw [if_pos (by rw [SX.S_len]; exact Nat.le_trans (show l.length ≤ 1000000 by omega) lim_mil), cut_take]
  infer_instance
theorem sl_ds {i : Nat} {fe : EvD} (hl : l.length ≤ 900000) (h1 : σ[1]? = some (some (.p (wP l)))) (h : fe σ M = .ok (.p (.int (i : Int))) M) : eSl (eVar 1) (sSome fe) sNone σ M = .ok (.p (wP (l.drop i))) M := by
  have e : oSl (some (i : Int)) none (wP l) = some (.p (wP (l.drop i))) := by
    show (if (SX.S l).length ≤ lim then some (D.p (.str (L2.cutS (SX.S l) (some (i : Int)) none))) else none) = _
    rw [if_pos (by rw [SX.S_len]; exact Nat.le_trans (show l.length ≤ 1000000 by omega) lim_mil), cut_drop]
  infer_instance
theorem sl_tl {A : List (List Nat)} {i n : Nat} {fe : EvD} (h1 : σ[2]? = some (some (.loc n))) (hM : M[n]? = some (.lst (A.map wP))) (h : fe σ M = .ok (.p (.int (i : Int))) M) : eSl (eVar 2) sNone (sSome fe) σ M = .ok (.nw ((A.take i).map wP)) M := by
  have e : oSl none (some (i : Int)) (.lst (A.map wP)) = some (.nw ((A.take i).map wP)) := by
    show some (D.nw (cutP _ none (some (i : Int)))) = _
    rw [cutP_take, List.map_take]
  infer_instance
theorem sl_dl {A : List (List Nat)} {i n : Nat} {fe : EvD} (h1 : σ[2]? = some (some (.loc n))) (hM : M[n]? = some (.lst (A.map wP))) (h : fe σ M = .ok (.p (.int (i : Int))) M) : eSl (eVar 2) (sSome fe) sNone σ M = .ok (.nw ((A.drop i).map wP)) M := by
  have e : oSl (some (i : Int)) none (.lst (A.map wP)) = some (.nw ((A.drop i).map wP)) := by
    show some (D.nw (cutP _ (some (i : Int)) none)) = _
    rw [cutP_drop, List.map_drop]
  infer_instance
theorem adds_ev : eLst (aCons (eC (.str " ")) (aCons (eC (.str "0")) (aCons (eC (.str "1")) (aCons (eC (.str "9")) (aCons (eC (.str "/")) (aCons (eC (.str "-")) (aCons (eC (.str "b")) (aCons (eC (.str "
")) (aCons (eC (.str "g1 ")) aNil))))))))) σ M = .ok (.nw addsL) M := by
  unfold addsL
  infer_instance
theorem somW_ev : eLst (aCons (eC (.str "0")) (aCons (eC (.str "b0")) (aCons (eC (.str "b01")) (aCons (eC (.str "w1")) (aCons (eC (.str "10")) (aCons (eC (.str "b")) (aCons (eBin oAdd (eC (.str "r")) (eBin oMul (eC (.str "9")) (eC (.int 31)))) (aCons (eC (.str "/")) (aCons (eC (.str "")) (aCons (eC (.str "3")) (aCons (eC (.str "bg1")) (aCons (eC (.str "B1")) (aCons (eC (.str "g1.0")) aNil))))))))))))) σ M = .ok (.nw somW) M := by
  have m1 := mul_931
  have m2 := add_r31
  unfold somW
  infer_instance
def bSp3 : EvS := (sSeq (sIf (bOf (eBin oEq (eVar 6) (eC (.int 2)))) (sSeq (sRet (eMt "str" mJoin (eC (.str " ")) (aCons (eBin oAdd (eSl (eVar 2) sNone (sSome (eVar 3))) (eSl (eVar 2) (sSome (eBin oAdd (eVar 3) (eC (.int 1)))) sNone)) aNil)))
    sNil) sNil)
    (sSeq (sIf (bOf (eBin oEq (eVar 6) (eC (.int 3)))) (sSeq (sRet (eMt "str" mJoin (eC (.str " ")) (aCons (eBin oAdd (eSl (eVar 2) sNone (sSome (eBin oAdd (eVar 3) (eC (.int 1))))) (eSl (eVar 2) (sSome (eVar 3)) sNone)) aNil)))
    sNil) sNil)
    (sSeq (sSet 4 (eLst (aCons (eC (.str "0")) (aCons (eC (.str "b0")) (aCons (eC (.str "b01")) (aCons (eC (.str "w1")) (aCons (eC (.str "10")) (aCons (eC (.str "b")) (aCons (eBin oAdd (eC (.str "r")) (eBin oMul (eC (.str "9")) (eC (.int 31)))) (aCons (eC (.str "/")) (aCons (eC (.str "")) (aCons (eC (.str "3")) (aCons (eC (.str "bg1")) (aCons (eC (.str "B1")) (aCons (eC (.str "g1.0")) aNil)))))))))))))))
    (sSeq (sSub (eCall 2 F__law_pick (aCons (eVar 0) (aCons (eVar 4) aNil))) (eVar 2) (eVar 3))
    (sSeq (sRet (eMt "str" mJoin (eC (.str " ")) (aCons (eVar 2) aNil)))
    sNil)))))
def bSp2 : EvS := (sSeq (sSetM 2 (eMt "str" mSplit (eVar 1) (aCons (eC (.str " ")) aNil)))
    (sSeq (sSet 3 (eCall 2 F__law_unwind (aCons (eVar 0) (aCons (eCB cLen (aCons (eVar 2) aNil)) aNil)))) bSp3))
theorem ixN_nat {n j : Nat} (h : j < n) : L2.ixN n (j : Int) = some j := by
  unfold L2.ixN
  rw [if_pos (by omega), if_pos (by omega), Int.toNat_natCast]
theorem Spw.get {n k : Nat} {M M' : Sto} (w : Spw k M M') (h : k ≠ n) : M'[n]? = M[n]? := by
  rcases w with rfl | ⟨a, b, _, rfl⟩
  · rfl
  · rw [List.getElem?_set_ne h]
theorem sp3_ok {N : Sto} {A : List (List Nat)} {n i j : Nat} {x4 : Option D} {way : Int} (hs : SpAt N k) (hk : k ≠ n) (hg : N[n]? = some (.lst (A.map wP))) (hj : j < A.length) (wt : (A.map (·.length)).sum + A.length ≤ l.length + 1) (hl : l.length ≤ 300000) (hok : ∀ w ∈ A, ∀ c ∈ w, c < 0x110000) :
    ∃ l' N1 N2, bSp3 [some (.loc k), some (.p (wP l)), some (.loc n), some (.p (.int (j : Int))), x4, some (.p (.int (i : Int))), some (.p (.int way))] N = .ok (.rt (.p (wP l'))) N2 ∧ Spw k N N1 ∧ (N2 = N1 ∨ ∃ x, N2 = N1.set n x) ∧ OkT (2 * l.length + 60) l' := by
  have hcnt : A.length ≤ l.length + 1 := by omega
  let S1 : Fr := [some (.loc k), some (.p (wP l)), some (.loc n), some (.p (.int (j : Int))), x4, some (.p (.int (i : Int))), some (.p (.int way))]
  have hadd : oAdd (.int (j : Int)) (.int 1) = some (.p (.int ((j + 1 : Nat) : Int))) := by rw [o_add_i]; rfl
  have v3 : ∀ N : Sto, eVar 3 S1 N = .ok (.p (.int (j : Int))) N := fun N => var_ok rfl
  have v31 : ∀ N : Sto, eBin oAdd (eVar 3) (eC (.int 1)) S1 N = .ok (.p (.int ((j + 1 : Nat) : Int))) N := fun N => bin_ok (v3 N) cst_ok get_p get_p hadd
  obtain ⟨t1, t2⟩ := sum_take A j
  obtain ⟨t3, t4⟩ := sum_take A (j + 1)
  unfold bSp3
  by_cases h2 : way = 2
  · have s1 := sl_tl (A := A) (σ := S1) (n := n) rfl hg (v3 _)
    have s2 := sl_dl (A := A) (σ := S1) (n := n) rfl hg (v31 _)
    have s3 : oAdd (.lst ((A.take j).map wP)) (.lst ((A.drop (j + 1)).map wP)) = some (.nw ((A.take j ++ A.drop (j + 1)).map wP)) := by
      rw [List.map_append]
      exact oAdd_l (Nat.le_trans (by rw [List.length_map, List.length_map, List.length_take, List.length_drop]; omega) lim_mil)
    have s4 := join_ws (A := A.take j ++ A.drop (j + 1)) (by rw [List.map_append, List.sum_append, List.length_append, List.length_take, List.length_drop]; omega)
    refine ⟨_, N, N, seq_rt (if_tt (M1 := N) (bof_ok (bin_ok (var_ok rfl) cst_ok get_p get_p (eq_t h2))) (seq_rt (ret_ok (mt_ok (M1 := N) (M2 := N) cst_ok get_p (isTy_str _) (cons_v (bin_ok s1 s2 get_n get_n s3) x_valn nil_ok) get_p rfl s4)))), Spw.refl, .inl rfl, ok_jw fun w hw => ?_, ?_⟩
    · rcases List.mem_append.mp hw with hw | hw
      · exact hok w (List.mem_of_mem_take hw)
      · exact hok w (List.mem_of_mem_drop hw)
    · have := jw_len (A.take j ++ A.drop (j + 1))
      rw [List.map_append, List.sum_append, List.length_append, List.length_take, List.length_drop] at this
      omega
  · have n2 : sIf (bOf (eBin oEq (eVar 6) (eC (.int 2)))) (sSeq (sRet (eMt "str" mJoin (eC (.str " ")) (aCons (eBin oAdd (eSl (eVar 2) sNone (sSome (eVar 3))) (eSl (eVar 2) (sSome (eBin oAdd (eVar 3) (eC (.int 1)))) sNone)) aNil))) sNil) sNil S1 N = .ok (.nx S1) N :=
      if_ff (M1 := N) (bof_ok (bin_ok (var_ok rfl) cst_ok get_p get_p (eq_f h2))) nil_s
    by_cases h3 : way = 3
    · have s1 := sl_tl (A := A) (σ := S1) (n := n) rfl hg (v31 _)
      have s2 := sl_dl (A := A) (σ := S1) (n := n) rfl hg (v3 _)
      have s3 : oAdd (.lst ((A.take (j + 1)).map wP)) (.lst ((A.drop j).map wP)) = some (.nw ((A.take (j + 1) ++ A.drop j).map wP)) := by
        rw [List.map_append]
        exact oAdd_l (Nat.le_trans (by rw [List.length_map, List.length_map, List.length_take, List.length_drop]; omega) lim_mil)
      have s4 := join_ws (A := A.take (j + 1) ++ A.drop j) (by rw [List.map_append, List.sum_append, List.length_append, List.length_take, List.length_drop]; omega)
      refine ⟨_, N, N, seq_nx n2 (seq_rt (if_tt (M1 := N) (bof_ok (bin_ok (var_ok rfl) cst_ok get_p get_p (eq_t h3))) (seq_rt (ret_ok (mt_ok (M1 := N) (M2 := N) cst_ok get_p (isTy_str _) (cons_v (bin_ok s1 s2 get_n get_n s3) x_valn nil_ok) get_p rfl s4))))), Spw.refl, .inl rfl, ok_jw fun w hw => ?_, ?_⟩
      · rcases List.mem_append.mp hw with hw | hw
        · exact hok w (List.mem_of_mem_take hw)
        · exact hok w (List.mem_of_mem_drop hw)
      · have := jw_len (A.take (j + 1) ++ A.drop j)
        rw [List.map_append, List.sum_append, List.length_append, List.length_take, List.length_drop] at this
        omega
    · have n3 : sIf (bOf (eBin oEq (eVar 6) (eC (.int 3)))) (sSeq (sRet (eMt "str" mJoin (eC (.str " ")) (aCons (eBin oAdd (eSl (eVar 2) sNone (sSome (eBin oAdd (eVar 3) (eC (.int 1))))) (eSl (eVar 2) (sSome (eVar 3)) sNone)) aNil))) sNil) sNil S1 N = .ok (.nx S1) N :=
        if_ff (M1 := N) (bof_ok (bin_ok (var_ok rfl) cst_ok get_p get_p (eq_f h3))) nil_s
      obtain ⟨q, M3, e4, w4, hq⟩ := sp_pick (M := N) (d := .p (.lst somW)) hs (.inl rfl) (by unfold somW; simp) (by unfold somW; simp)
      have hg3 : M3[n]? = some (.lst (A.map wP)) := (w4.get hk).trans hg
      obtain ⟨x, rfl, hx⟩ := sh_of ((List.all_eq_true.mp somW_all) q hq)
      let S2 : Fr := [some (.loc k), some (.p (wP l)), some (.loc n), some (.p (.int (j : Int))), some (.p (.lst somW)), some (.p (.int (i : Int))), some (.p (.int way))]
      have ixn : L2.ixN (A.map wP).length (j : Int) = some j := ixN_nat (by rw [List.length_map]; exact hj)
      have hsub : sSub (eCall 2 F__law_pick (aCons (eVar 0) (aCons (eVar 4) aNil))) (eVar 2) (eVar 3) S2 N = .ok (.nx S2) (M3.set n (.lst ((A.set j x).map wP))) := by
        have := sub_ok (σ := S2) (M := N) (fv := eCall 2 F__law_pick (aCons (eVar 0) (aCons (eVar 4) aNil))) (fo := eVar 2) (fi := eVar 3) (d := .p (wP x)) (q := wP x) (n := n) (k := (j : Int))
          (call_ok (n := 2) (M1 := N) (cons_v (var_ok rfl) x_vall (cons_v (var_ok rfl) x_val nil_ok)) rfl e4) x_val (var_ok rfl) (var_ok rfl) hg3 ixn
        rw [this, List.map_set]
      have hgs : (M3.set n (.lst ((A.set j x).map wP)))[n]? = some (.lst ((A.set j x).map wP)) := by
        have := (List.getElem?_eq_some_iff.mp hg3).1
        simp [this]
      have hset : A.set j x = A.take j ++ x :: A.drop (j + 1) := List.set_eq_take_append_cons_drop.trans (if_pos hj)
      have s4 := join_ws (A := A.set j x) (by
        have := hx.2
        rw [hset, List.map_append, List.sum_append, List.length_append, List.map_cons, List.sum_cons, List.length_cons, List.length_take, List.length_drop]; omega)
      refine ⟨_, M3, _, seq_nx n2 (seq_nx n3 (seq_nx (M1 := N) (set_v somW_ev x_valn) (seq_nx hsub (seq_rt (ret_ok (mt_ok (M1 := M3.set n (.lst ((A.set j x).map wP))) (M2 := M3.set n (.lst ((A.set j x).map wP))) cst_ok get_p (isTy_str _) (cons_v (v := .loc n) (var_ok rfl) x_vall nil_ok) get_p (getLc (getl_ hgs) getL0) s4)))))), w4, .inr ⟨_, rfl⟩, ok_jw fun w hw => ?_, ?_⟩
      · rw [hset] at hw
        rcases List.mem_append.mp hw with hw | hw
        · exact hok w (List.mem_of_mem_take hw)
        · rcases List.mem_cons.mp hw with rfl | hw
          · exact hx.1
          · exact hok w (List.mem_of_mem_drop hw)
      · have := jw_len (A.set j x)
        have := hx.2
        rw [hset, List.map_append, List.sum_append, List.length_append, List.map_cons, List.sum_cons, List.length_cons, List.length_take, List.length_drop] at *
        omega
theorem sp2_ok {x3 x4 : Option D} {i : Nat} {way : Int} (hs : SpAt M k) (hl : l.length ≤ 300000) (ho : ∀ c ∈ l, c < 0x110000) :
    ∃ l' M2 x, bSp2 [some (.loc k), some (.p (wP l)), none, x3, x4, some (.p (.int (i : Int))), some (.p (.int way))] M = .ok (.rt (.p (wP l'))) (M2 ++ [x]) ∧ Spw k M M2 ∧ OkT (2 * l.length + 60) l' := by
  have m1 := m_split_w (l := l) (by omega)
  have wt := spw_weight l
  have hne := spw_ne l
  generalize hA : spw l = A at m1 wt hne
  have hok : ∀ w ∈ A, ∀ c ∈ w, c < 0x110000 := fun w hw c hc => ho c (spw_mem (hA ▸ hw) hc)
  have hpos : 0 < A.length := List.length_pos_iff.mpr hne
  have hcnt : A.length ≤ l.length + 1 := by omega
  have f1 : eMt "str" mSplit (eVar 1) (aCons (eC (.str " ")) aNil) [some (.loc k), some (.p (wP l)), none, x3, x4, some (.p (.int (i : Int))), some (.p (.int way))] M = .ok (.nw (A.map wP)) M :=
    mt_ok (M1 := M) (M2 := M) (var_ok rfl) get_p (isTy_str _) (cons_v cst_ok x_val nil_ok) get_p rfl m1
  have f1 := setM_ok' (i := 2) f1
  have hkn : k < M.length := by
    obtain ⟨_, _, _, h⟩ := hs
    exact (List.getElem?_eq_some_iff.mp h).1
  have hs0 : SpAt (M ++ [.lst (A.map wP)]) k := hs.push
  have hg0 : (M ++ [MO.lst (A.map wP)])[M.length]? = some (.lst (A.map wP)) := st_getG rfl
  have hpop : ∀ M', Spw k (M ++ [.lst (A.map wP)]) M' → ∃ M2, M' = M2 ++ [.lst (A.map wP)] ∧ Spw k M M2 := fun M' w => w.pop hs
  generalize M ++ [MO.lst (A.map wP)] = N0 at f1 hs0 hg0 hpop
  obtain ⟨r, N, e2, w2, r0, r1⟩ := sp_unwind (M := N0) (most := (A.length : Int)) hs0 (by omega) (lt1000 (by omega) (Int.lt_of_le_of_lt (show (A.length : Int) ≤ 400000 by omega) (by decide +kernel)))
  have er : r = ((r.toNat : Nat) : Int) := by omega
  have hj : r.toNat < A.length := by omega
  generalize r.toNat = j at er hj
  subst er
  have el : cLen [.lst (A.map wP)] = some (.p (.int (A.length : Int))) := by rw [c_len_l, List.length_map]
  have f2 : eCall 2 F__law_unwind (aCons (eVar 0) (aCons (eCB cLen (aCons (eVar 2) aNil)) aNil)) [some (.loc k), some (.p (wP l)), some (.loc M.length), x3, x4, some (.p (.int (i : Int))), some (.p (.int way))] N0 = .ok (.p (.int (j : Int))) N :=
    call_ok (n := 2) (M1 := N0) (cons_v (var_ok rfl) x_vall (cons_v (callB_ok (M1 := N0) (ds := [.loc M.length]) (cons_v (var_ok rfl) x_vall nil_ok) (getLc (getl_ hg0) getL0) el) x_val nil_ok)) rfl e2
  obtain ⟨l', N1, N2, e3, w3, hN, hl'⟩ := sp3_ok (l := l) (N := N) (A := A) (n := M.length) (i := i) (j := j) (x4 := x4) (way := way) (w2.at hs0) (by omega) ((w2.get (by omega)).trans hg0) hj wt hl hok
  obtain ⟨M2, rfl, w4⟩ := hpop N1 (w2.trans w3)
  have hn : M2.length = M.length := w4.len
  have hfin : ∃ x, N2 = M2 ++ [x] := by
    rcases hN with rfl | ⟨x, rfl⟩
    · exact ⟨_, rfl⟩
    · exact ⟨x, st_setG hn⟩
  obtain ⟨x, rfl⟩ := hfin
  refine ⟨l', M2, x, ?_, w4, hl'⟩
  unfold bSp2
  refine seq_nx f1 ?_
  exact seq_nx (M1 := N) (set_v f2 x_val) e3
theorem sp_spoilt (hs : SpAt M k) (hl : l.length ≤ 300000) (ho : ∀ c ∈ l, c < 0x110000) :
    ∃ l' M', F__law_spoilt [.loc k, .p (wP l)] M = .ok (.p (wP l')) M' ∧ Spw k M M' ∧ OkT (2 * l.length + 60) l' := by
  obtain ⟨at_, M1, e1, w1, a0, a1⟩ := sp_unwind (most := (l.length : Int) + 1) hs (by omega) (lt1000 (by omega) (Int.lt_of_le_of_lt (show (l.length : Int) + 1 ≤ 400000 by omega) (by decide +kernel)))
  obtain ⟨way, M2, e2, w2, b0, b1⟩ := sp_unwind (most := 5) (w1.at hs) (by decide) (by decide +kernel)
  have ea : at_ = ((at_.toNat : Nat) : Int) := by omega
  generalize at_.toNat = i at ea
  subst ea
  have hw := w1.trans w2
  have el := len_w (w := l) (by omega)
  let S1 : Fr := [some (.loc k), some (.p (wP l)), none, none, none, some (.p (.int (i : Int))), some (.p (.int way))]
  have hlen : oAdd (.int (l.length : Int)) (.int 1) = some (.p (.int ((l.length : Int) + 1))) := o_add_i
  have par : sPar [5, 6] (aCons (eCall 2 F__law_unwind (aCons (eVar 0) (aCons (eBin oAdd (eCB cLen (aCons (eVar 1) aNil)) (eC (.int 1))) aNil))) (aCons (eCall 2 F__law_unwind (aCons (eVar 0) (aCons (eC (.int 5)) aNil))) aNil)) [some (.loc k), some (.p (wP l)), none, none, none, none, none] M = .ok (.nx S1) M2 :=
    par_ok (ds := [.p (.int (i : Int)), .p (.int way)]) (cons_v (call_ok (n := 2) (M1 := M) (cons_v (var_ok rfl) x_vall (cons_v (bin_ok (callB_ok (M1 := M) (cons_v (var_ok rfl) x_val nil_ok) rfl el) cst_ok get_p get_p hlen) x_val nil_ok)) rfl e1) x_val (cons_v (call_ok (n := 2) (M1 := M1) (cons_v (var_ok rfl) x_vall (cons_v cst_ok x_val nil_ok)) rfl e2) x_val nil_ok)) rfl
  have hadd : oAdd (.int (i : Int)) (.int 1) = some (.p (.int ((i + 1 : Nat) : Int))) := by rw [o_add_i]; rfl
  have v5 : ∀ N : Sto, eVar 5 S1 N = .ok (.p (.int (i : Int))) N := fun N => var_ok rfl
  have v51 : ∀ N : Sto, eBin oAdd (eVar 5) (eC (.int 1)) S1 N = .ok (.p (.int ((i + 1 : Nat) : Int))) N := fun N => bin_ok (v5 N) cst_ok get_p get_p hadd
  by_cases h0 : way = 0
  · have s1 := sl_ts (M := M2) (σ := S1) (l := l) (by omega) rfl (v5 _)
    have s2 := sl_ds (M := M2) (σ := S1) (l := l) (by omega) rfl (v51 _)
    have s3 := oAdd_w (a := l.take i) (b := l.drop (i + 1)) (by rw [List.length_take, List.length_drop]; omega)
    refine ⟨l.take i ++ l.drop (i + 1), M2, ?_, hw, fun c hc => ?_, ?_⟩
    · unfold F__law_spoilt; rw [fnB2]; refine lv_pS ?_ hw.len; unfold b__law_spoilt
      refine seq_nx par ?_
      exact seq_rt (if_tt (M1 := M2) (bof_ok (bin_ok (var_ok rfl) cst_ok get_p get_p (eq_t h0))) (seq_rt (ret_ok (bin_ok s1 s2 get_p get_p s3))))
    · rcases List.mem_append.mp hc with hc | hc
      · exact ho c (List.mem_of_mem_take hc)
      · exact ho c (List.mem_of_mem_drop hc)
    · rw [List.length_append, List.length_take, List.length_drop]; omega
  · have n0 : sIf (bOf (eBin oEq (eVar 6) (eC (.int 0)))) (sSeq (sRet (eBin oAdd (eSl (eVar 1) sNone (sSome (eVar 5))) (eSl (eVar 1) (sSome (eBin oAdd (eVar 5) (eC (.int 1)))) sNone))) sNil) sNil S1 M2 = .ok (.nx S1) M2 :=
      if_ff (M1 := M2) (bof_ok (bin_ok (var_ok rfl) cst_ok get_p get_p (eq_f h0))) nil_s
    by_cases h1 : way = 1
    · obtain ⟨q, M3, e4, w4, hq⟩ := sp_pick (M := M2) (d := .p (.lst addsL)) (hw.at hs) (.inl rfl) (by unfold addsL; simp) (by unfold addsL; simp)
      obtain ⟨x, rfl, hx⟩ := sh_of ((List.all_eq_true.mp adds_all) q hq)
      have hw3 := hw.trans w4
      have hx2 := hx.2
      have s1 := sl_ts (M := M2) (σ := S1) (l := l) (by omega) rfl (v5 _)
      have s2 := sl_ds (M := M3) (σ := S1) (l := l) (by omega) rfl (v5 _)
      have s3 := oAdd_w (a := l.take i) (b := x) (by rw [List.length_take]; omega)
      have s4 := oAdd_w (a := l.take i ++ x) (b := l.drop i) (by rw [List.length_append, List.length_take, List.length_drop]; omega)
      refine ⟨l.take i ++ x ++ l.drop i, M3, ?_, hw3, fun c hc => ?_, ?_⟩
      · unfold F__law_spoilt; rw [fnB2]; refine lv_pS ?_ hw3.len; unfold b__law_spoilt
        refine seq_nx par (seq_nx n0 ?_)
        exact seq_rt (if_tt (M1 := M2) (bof_ok (bin_ok (var_ok rfl) cst_ok get_p get_p (eq_t h1))) (seq_rt (ret_ok (bin_ok (bin_ok s1 (call_ok (n := 2) (M1 := M2) (cons_v (var_ok rfl) x_vall (cons_v adds_ev x_valn nil_ok)) rfl e4) get_p get_p s3) s2 get_p get_p s4))))
      · rcases List.mem_append.mp hc with hc | hc
        · rcases List.mem_append.mp hc with hc | hc
          · exact ho c (List.mem_of_mem_take hc)
          · exact hx.1 c hc
        · exact ho c (List.mem_of_mem_drop hc)
      · rw [List.length_append, List.length_append, List.length_take, List.length_drop]; omega
    · obtain ⟨l', M4, x, e5, w5, h5⟩ := sp2_ok (x3 := none) (x4 := none) (i := i) (way := way) (hw.at hs) hl ho
      have hw4 := hw.trans w5
      refine ⟨l', M4, ?_, hw4, h5⟩
      unfold F__law_spoilt; rw [fnB2]; refine lv_pG (x := x) ?_ hw4.len; unfold b__law_spoilt
      refine seq_nx par (seq_nx n0 ?_)
      refine seq_nx (M1 := M2) (if_ff (M1 := M2) (bof_ok (bin_ok (var_ok rfl) cst_ok get_p get_p (eq_f h1))) nil_s) ?_
      exact e5
end
end Ev

set_option linter.all false
set_option maxRecDepth 100000
set_option maxHeartbeats 400000
/-! k07: the loops. -/
namespace Ev
open PySem
def bd : Nat → Nat
  | 0 => 400
  | n + 1 => 2 * bd n + 60
theorem bd_lo : ∀ n, n < 9 → 400 ≤ bd n ∧ bd n ≤ 300000 := by decide
def bTn : EvS := (sSeq (sSet 8 (eCall 2 F__law_spoilt (aCons (eVar 3) (aCons (eIf (bOf (eBin oGt (eBin oMod (eVar 9) (eC (.int 3))) (eC (.int 0)))) (eVar 8) (eVar 7)) aNil))))
    (sSeq (sIf (bOf (eBin oNe (eCall 1 F__law_read (aCons (eVar 8) aNil)) (eCall 1 F__law_due (aCons (eVar 8) aNil)))) (sSeq (sRet (eC (.bl false)))
    sNil) sNil)
    sNil))
def bMc : EvS := (sSeq (sSet 6 (eCall 2 F__law_any_machine (aCons (eVar 3) (aCons (eVar 4) aNil))))
    (sSeq (sSet 7 (eCall 1 F__law_text (aCons (eVar 6) aNil)))
    (sSeq (sIf (bOr (bOf (eBin oNe (eCall 1 F_machine_text (aCons (eVar 6) aNil)) (eVar 7))) (bOf (eBin oNe (eCall 1 F__law_read (aCons (eVar 7) aNil)) (eVar 6)))) (sSeq (sRet (eC (.bl false)))
    sNil) sNil)
    (sSeq (sSet 8 (eVar 7))
    (sSeq (sFor (.nm 9) (iRange1 (aCons (eC (.int 8)) aNil)) bTn)
    sNil)))))
def bOd : EvS := (sSeq (sSet 5 (eCall 2 F__law_any_value (aCons (eVar 3) (aCons (eC (.int 2)) aNil))))
    (sSeq (sIf (bOf (eBin oNe (eCall 1 F__law_read (aCons (eVar 5) aNil)) (eCall 1 F__law_due (aCons (eVar 5) aNil)))) (sSeq (sRet (eC (.bl false)))
    sNil) sNil)
    (sSeq (sIf (bAnd (bNot (bTru (eCall 1 F__law_good_machine (aCons (eVar 5) aNil)))) (bOf (eBin oNe (eWord wdT (eCall 1 F_machine_text (aCons (eVar 5) aNil))) (eC (.str "machine value"))))) (sSeq (sRet (eC (.bl false)))
    sNil) sNil)
    sNil)))
def bSc : EvS := (sSeq (sFor (.nm 4) (iOf (eTup (aCons (eC (.bl false)) (aCons (eC (.bl true)) aNil)))) bMc) bOd)
def bOut7 : EvS := (sSeq (sSetM 3 (eCall 2 F__law_spool (aCons (eVar 0) (aCons (eVar 1) aNil)))) bSc)
theorem wd_m7 : wdT "InvalidMachine" = some "machine value" := by kernel_rfl
local macro_rules
  | `(tactic| infer_instance) => `(tactic| first
    | with_reducible exact nil_ok
    | with_reducible exact cst_ok
    | with_reducible exact nil_s
    | with_reducible exact raise_ok
    | with_reducible exact x_val
    | with_reducible exact x_valn
    | with_reducible exact x_vall
    | with_reducible exact get_p
    | with_reducible exact get_n
    | (with_reducible apply getl_); first | with_reducible assumption | infer_instance
    | (with_reducible apply var_ok); first | with_reducible assumption | rfl
    | with_reducible exact getL0
    | with_reducible exact sNone_ok
    | (with_reducible apply sSome_ok) <;> infer_instance
    | (with_reducible apply eSl_ok) <;> infer_instance
    | (with_reducible apply rng_ok) <;> infer_instance
    | (with_reducible apply iof_str) <;> infer_instance
    | (with_reducible apply iof_nw) <;> infer_instance
    | (with_reducible apply iof_lst) <;> infer_instance
    | (with_reducible apply iof_tup) <;> infer_instance
    | with_reducible exact allP0
    | (with_reducible apply getLc) <;> infer_instance
    | (with_reducible apply allPc) <;> infer_instance
    | (with_reducible apply cons_v) <;> infer_instance
    | (with_reducible apply seq_nx) <;> infer_instance
    | (with_reducible apply seq_rt) <;> infer_instance
    | (with_reducible apply seq_er) <;> infer_instance
    | (with_reducible apply set_v) <;> infer_instance
    | (with_reducible apply setM_ok') <;> infer_instance
    | (with_reducible apply ret_ok) <;> infer_instance
    | (with_reducible apply exp_ok) <;> infer_instance
    | (with_reducible apply exp_er) <;> infer_instance
    | (with_reducible apply if_tt) <;> infer_instance
    | (with_reducible apply if_ff) <;> infer_instance
    | (with_reducible apply bof_ok) <;> infer_instance
    | (with_reducible apply btru_ok) <;> infer_instance
    | (with_reducible apply bnot_t) <;> infer_instance
    | (with_reducible apply bnot_f) <;> infer_instance
    | (with_reducible apply band_tt) <;> infer_instance
    | (with_reducible apply band_f) <;> infer_instance
    | (with_reducible apply bor_t) <;> infer_instance
    | (with_reducible apply bor_ff) <;> infer_instance
    | (with_reducible apply and_tt) <;> infer_instance
    | (with_reducible apply and_ff) <;> infer_instance
    | (with_reducible apply ife_tt) <;> infer_instance
    | (with_reducible apply ife_ff) <;> infer_instance
    | (with_reducible apply not_t) <;> infer_instance
    | (with_reducible apply not_f) <;> infer_instance
    | (with_reducible apply neg_ok) <;> infer_instance
    | (with_reducible apply isi_ok) <;> infer_instance
    | (with_reducible apply chain_t) <;> infer_instance
    | (with_reducible apply chain_f) <;> infer_instance
    | (with_reducible apply bin_ok) <;> infer_instance
    | (with_reducible apply callB_ok) <;> infer_instance
    | (with_reducible apply mt_ok) <;> infer_instance
    | (with_reducible apply call_ok) <;> infer_instance
    | (with_reducible apply call_er) <;> infer_instance
    | (with_reducible apply word_er) <;> infer_instance
    | (with_reducible apply lst_okN) <;> infer_instance
    | (with_reducible apply tup_okN) <;> infer_instance
    | (with_reducible apply par_ok) <;> infer_instance
    | with_reducible assumption
    | ((with_reducible apply lt_t); omega)
    | ((with_reducible apply lt_f); omega)
    | ((with_reducible apply le_t); omega)
    | ((with_reducible apply le_f); omega)
    | ((with_reducible apply gt_t); omega)
    | ((with_reducible apply gt_f); omega)
    | ((with_reducible apply ge_t); omega)
    | ((with_reducible apply ge_f); omega)
    | ((with_reducible apply eq_t); omega)
    | ((with_reducible apply eq_f); omega)
    | ((with_reducible apply ne_t); omega)
    | ((with_reducible apply ne_f); omega)
    | ((with_reducible apply o_mod_i); omega)
    | (with_reducible apply mul_small_l) <;> omega
    | (with_reducible apply mul_small_r) <;> omega
    | with_reducible exact isi1 | with_reducible exact isi2 | with_reducible exact isi3 | with_reducible exact isi4 | with_reducible exact isi5 | with_reducible exact isi6
    | ((with_reducible apply Nat.le_of_ble_eq_true); rfl)
    | rfl)

section
variable {M : Sto} {l : List Nat} {σ : Fr} {k : Nat} {rb : List (Str × Int)} {st : List Int} {v : P} {x0 x1 x2 x4 x5 x6 x7 x8 x9 x10 : Option D}
theorem turn_step {n i : Nat} (h : MOk rb st) (hs : SpAt M k) (hn : n < 8) (hl : OkT (bd n) l) :
    ∃ l' M', bTn [x0, x1, x2, some (.loc k), x4, x5, x6, some (.p (wP (txtL rb st))), some (.p (wP l)), some (.p (.int (i : Int))), x10] M = .ok (.nx [x0, x1, x2, some (.loc k), x4, x5, x6, some (.p (wP (txtL rb st))), some (.p (wP l')), some (.p (.int (i : Int))), x10]) M' ∧ Spw k M M' ∧ OkT (bd (n + 1)) l' := by
  have hb := bd_lo n (by omega)
  have tl := txt_len h
  obtain ⟨w, hw, e1⟩ : ∃ w, OkT (bd n) w ∧ eIf (bOf (eBin oGt (eBin oMod (eVar 9) (eC (.int 3))) (eC (.int 0)))) (eVar 8) (eVar 7) [x0, x1, x2, some (.loc k), x4, x5, x6, some (.p (wP (txtL rb st))), some (.p (wP l)), some (.p (.int (i : Int))), x10] M = .ok (.p (wP w)) M := by
    have em : oMod (.int (i : Int)) (.int 3) = some (.p (.int ((i : Int) % 3))) := o_mod_i (by decide)
    by_cases hg : 0 < (i : Int) % 3
    · exact ⟨l, hl, ife_tt (M1 := M) (bof_ok (bin_ok (bin_ok (var_ok rfl) cst_ok get_p get_p em) cst_ok get_p get_p (gt_t hg))) (var_ok rfl)⟩
    · exact ⟨txtL rb st, ⟨txt_ok h, by omega⟩, ife_ff (M1 := M) (bof_ok (bin_ok (bin_ok (var_ok rfl) cst_ok get_p get_p em) cst_ok get_p get_p (gt_f hg))) (var_ok rfl)⟩
  obtain ⟨hw1, hw2⟩ := hw
  obtain ⟨l', M', e2, w2, h3, h4⟩ := sp_spoilt (l := w) hs (by omega) hw1
  obtain ⟨u, e3, e4, hu⟩ := same_read (M := M') (l := l') (by omega) h3
  refine ⟨l', M', ?_, w2, h3, by show l'.length ≤ 2 * bd n + 60; omega⟩
  unfold bTn
  refine seq_nx (M1 := M') (set_v (call_ok (n := 2) (M1 := M) (cons_v (var_ok rfl) x_vall (cons_v e1 x_val nil_ok)) rfl e2) x_val) ?_
  exact seq_nx (M1 := M') (if_ff (M1 := M') (bof_ok (bin_ok (call_ok (n := 1) (M1 := M') (cons_v (var_ok rfl) x_val nil_ok) rfl e3) (call_ok (n := 1) (M1 := M') (cons_v (var_ok rfl) x_val nil_ok) rfl e4) get_p get_p (oNe_refl hu))) nil_s) nil_s
theorem mach_step {g : Bool} (hs : SpAt M k) : ∃ y6 y7 y8 y9 M', bMc [x0, x1, x2, some (.loc k), some (.p (.bl g)), x5, x6, x7, x8, x9, x10] M = .ok (.nx [x0, x1, x2, some (.loc k), some (.p (.bl g)), x5, y6, y7, y8, y9, x10]) M' ∧ SpAt M' k := by
  obtain ⟨rb, st, M1, e1, w1, h, _⟩ := sp_any_machine (g := g) hs
  have e2 := sp_law_text (M := M1) h
  have e3 := sp_machine_text (M := M1) h
  have e4 := lread_ok (read_text (M := M1) h)
  have q1 := strN_S (a := txtL rb st) (b := txtL rb st)
  rw [decide_eq_true rfl] at q1
  have q1 : oNe (wP (txtL rb st)) (wP (txtL rb st)) = some (.p (.bl false)) := q1
  have q2 := oNe_refl (mach_dat h)
  obtain ⟨σ', M', e, ⟨l', y9, rfl, _⟩, hs'⟩ := forL_invB (t := .nm 9) (b := bTn) 8 (fun n σ M' => (∃ l y9, σ = [x0, x1, x2, some (.loc k), some (.p (.bl g)), x5, some (.p (machP rb st)), some (.p (wP (txtL rb st))), some (.p (wP l)), y9, x10] ∧ OkT (bd n) l) ∧ SpAt M' k) (rgs 0 8) 0
    [x0, x1, x2, some (.loc k), some (.p (.bl g)), x5, some (.p (machP rb st)), some (.p (wP (txtL rb st))), some (.p (wP (txtL rb st))), x9, x10] M1 ⟨⟨_, _, rfl, txt_ok h, txt_len h⟩, w1.at hs⟩ (by simp [rgs]) (by
      rintro p hp n σ M' hn ⟨⟨l, y9, rfl, hl⟩, hs'⟩
      unfold rgs at hp
      obtain ⟨i, _, rfl⟩ := List.mem_map.mp hp
      rw [Int.zero_add]
      obtain ⟨l', M2, e2, w2, hl'⟩ := turn_step (x0 := x0) (x1 := x1) (x2 := x2) (x4 := some (.p (.bl g))) (x5 := x5) (x6 := some (.p (machP rb st))) (x10 := x10) (i := i) h hs' hn hl
      exact ⟨_, _, M2, x_nm, e2, ⟨_, _, rfl, hl'⟩, w2.at hs'⟩)
  refine ⟨some (.p (machP rb st)), some (.p (wP (txtL rb st))), some (.p (wP l')), y9, M', ?_, hs'⟩
  unfold bMc
  refine seq_nx (M1 := M1) (set_v (call_ok (n := 2) (M1 := M) (cons_v (var_ok rfl) x_vall (cons_v (var_ok rfl) x_val nil_ok)) rfl e1) x_val) ?_
  refine seq_nx (M1 := M1) (set_v (call_ok (n := 1) (M1 := M1) (cons_v (var_ok rfl) x_val nil_ok) rfl e2) x_val) ?_
  refine seq_nx (M1 := M1) (if_ff (M1 := M1) (bor_ff (M1 := M1) (bof_ok (bin_ok (call_ok (n := 1) (M1 := M1) (cons_v (var_ok rfl) x_val nil_ok) rfl e3) (var_ok rfl) get_p get_p q1)) (bof_ok (bin_ok (call_ok (n := 1) (M1 := M1) (cons_v (var_ok rfl) x_val nil_ok) rfl e4) (var_ok rfl) get_p get_p q2))) nil_s) ?_
  refine seq_nx (M1 := M1) (set_v (var_ok rfl) x_val) ?_
  have hi : iRange1 (aCons (eC (.int 8)) aNil) [x0, x1, x2, some (.loc k), some (.p (.bl g)), x5, some (.p (machP rb st)), some (.p (wP (txtL rb st))), some (.p (wP (txtL rb st))), x9, x10] M1 = .ok (rgs 0 8) M1 := rng_ok (n := 8) (cons_v cst_ok x_val nil_ok) (lim_n (by decide))
  exact seq_nx (Eq.trans (for_ok hi) e) nil_s
theorem text_er {t n : Nat} (hv : VB t n v) (ht : t ≤ 900000) (hm : isM v = false) : F_machine_text [.p v] M = .er "InvalidMachine" none M := by
  have e := machine_any (M := M) hv ht
  rw [hm] at e
  have e2 : F_need_machine [.p v] M = .er "InvalidMachine" none M := by
    unfold F_need_machine; rw [fnB1]; apply lv_er; unfold b_need_machine
    exact seq_er (if_tt (M1 := M) (bnot_t (btru_ok (call_ok (n := 1) (M1 := M) (cons_v (var_ok rfl) x_val nil_ok) rfl e) get_p rfl)) (seq_er raise_ok))
  unfold F_machine_text; rw [fnB1]; apply lv_er; unfold b_machine_text
  exact seq_er (exp_er (call_er (n := 1) (M1 := M) (cons_v (var_ok rfl) x_val nil_ok) rfl e2))
theorem odd_step (hs : SpAt M k) : ∃ y5 M', bOd [x0, x1, x2, some (.loc k), x4, x5, x6, x7, x8, x9, x10] M = .ok (.nx [x0, x1, x2, some (.loc k), x4, y5, x6, x7, x8, x9, x10]) M' := by
  obtain ⟨v, M1, e1, w1, hv⟩ := sp_any_value 2 19 (by decide) hs
  have e1 : F__law_any_value [.loc k, .p (.int 2)] M = .ok (.p v) M1 := e1
  obtain ⟨u, e3, e4, hu⟩ := same_any (M := M1) hv (by decide)
  have e5 := good_any (M := M1) hv (by decide) (by decide)
  refine ⟨some (.p v), M1, ?_⟩
  unfold bOd
  refine seq_nx (M1 := M1) (set_v (call_ok (n := 2) (M1 := M) (cons_v (var_ok rfl) x_vall (cons_v cst_ok x_val nil_ok)) rfl e1) x_val) ?_
  refine seq_nx (M1 := M1) (if_ff (M1 := M1) (bof_ok (bin_ok (call_ok (n := 1) (M1 := M1) (cons_v (var_ok rfl) x_val nil_ok) rfl e3) (call_ok (n := 1) (M1 := M1) (cons_v (var_ok rfl) x_val nil_ok) rfl e4) get_p get_p (oNe_refl hu))) nil_s) ?_
  cases hm : isM v with
  | true =>
    rw [hm] at e5
    exact seq_nx (M1 := M1) (if_ff (M1 := M1) (band_f (bnot_f (btru_ok (call_ok (n := 1) (M1 := M1) (cons_v (var_ok rfl) x_val nil_ok) rfl e5) get_p rfl))) nil_s) nil_s
  | false =>
    rw [hm] at e5
    have e6 := text_er (M := M1) hv (by decide) hm
    have q1 : oNe (.str "machine value") (.str "machine value") = some (.p (.bl false)) := oNe_str _
    exact seq_nx (M1 := M1) (if_ff (M1 := M1) (band_tt (M1 := M1) (bnot_t (btru_ok (call_ok (n := 1) (M1 := M1) (cons_v (var_ok rfl) x_val nil_ok) rfl e5) get_p rfl)) (bof_ok (bin_ok (word_er (call_er (n := 1) (M1 := M1) (cons_v (var_ok rfl) x_val nil_ok) rfl e6) wd_m7) cst_ok get_p get_p q1))) nil_s) nil_s
theorem sc_step (hs : SpAt M k) : ∃ y4 y5 y6 y7 y8 y9 M', bSc [x0, x1, x2, some (.loc k), x4, x5, x6, x7, x8, x9, x10] M = .ok (.nx [x0, x1, x2, some (.loc k), y4, y5, y6, y7, y8, y9, x10]) M' := by
  obtain ⟨σ', M1, e, ⟨y4, y6, y7, y8, y9, rfl⟩, hs'⟩ := forL_inv (t := .nm 4) (b := bMc) (fun σ M' => (∃ y4 y6 y7 y8 y9, σ = [x0, x1, x2, some (.loc k), y4, x5, y6, y7, y8, y9, x10]) ∧ SpAt M' k) [.bl false, .bl true]
    [x0, x1, x2, some (.loc k), x4, x5, x6, x7, x8, x9, x10] M ⟨⟨_, _, _, _, _, rfl⟩, hs⟩ (by
      rintro p hp σ M' ⟨⟨y4, y6, y7, y8, y9, rfl⟩, hs'⟩
      obtain ⟨g, rfl⟩ : ∃ g, p = .bl g := by
        simp only [List.mem_cons, List.not_mem_nil, or_false] at hp
        rcases hp with rfl | rfl <;> exact ⟨_, rfl⟩
      obtain ⟨z6, z7, z8, z9, M2, e2, hs2⟩ := mach_step (g := g) (x0 := x0) (x1 := x1) (x2 := x2) (x5 := x5) (x6 := y6) (x7 := y7) (x8 := y8) (x9 := y9) (x10 := x10) hs'
      exact ⟨_, _, M2, x_nm, e2, ⟨_, _, _, _, _, rfl⟩, hs2⟩)
  obtain ⟨y5, M2, e2⟩ := odd_step (x0 := x0) (x1 := x1) (x2 := x2) (x4 := y4) (x5 := x5) (x6 := y6) (x7 := y7) (x8 := y8) (x9 := y9) (x10 := x10) hs'
  refine ⟨y4, y5, y6, y7, y8, y9, M2, ?_⟩
  unfold bSc
  have hi : iOf (eTup (aCons (eC (.bl false)) (aCons (eC (.bl true)) aNil))) [x0, x1, x2, some (.loc k), x4, x5, x6, x7, x8, x9, x10] M = .ok [.bl false, .bl true] M := iof_tup (tup_okN (M1 := M) (ds := [.p (.bl false), .p (.bl true)]) (cons_v cst_ok x_val (cons_v cst_ok x_val nil_ok)) rfl (by decide))
  exact seq_nx (Eq.trans (for_ok hi) e) e2
theorem out7_ok {ns : List Int} {i : Nat} {x3 : Option D} : ∃ y3 y4 y5 y6 y7 y8 y9 M', bOut7 [some (.p (.scr ns)), some (.p (.int (i : Int))), x2, x3, x4, x5, x6, x7, x8, x9, x10] M = .ok (.nx [some (.p (.scr ns)), some (.p (.int (i : Int))), x2, y3, y4, y5, y6, y7, y8, y9, x10]) M' := by
  obtain ⟨a, b, ha, e1⟩ := sp_spool (ns := ns) (k := i) (M := M)
  have s1 : SpAt (M ++ [.lst [.int a, .int b]]) M.length := ⟨a, b, ha, st_get'⟩
  obtain ⟨y4, y5, y6, y7, y8, y9, M', e⟩ := sc_step (x0 := some (.p (.scr ns))) (x1 := some (.p (.int (i : Int)))) (x2 := x2) (x4 := x4) (x5 := x5) (x6 := x6) (x7 := x7) (x8 := x8) (x9 := x9) (x10 := x10) s1
  refine ⟨some (.loc M.length), y4, y5, y6, y7, y8, y9, M', ?_⟩
  have h1 : eCall 2 F__law_spool (aCons (eVar 0) (aCons (eVar 1) aNil)) [some (.p (.scr ns)), some (.p (.int (i : Int))), x2, x3, x4, x5, x6, x7, x8, x9, x10] M = .ok (.nw [.int a, .int b]) M :=
    call_ok (n := 2) (ds := [.p (.scr ns), .p (.int (i : Int))]) (M1 := M) (cons_v (var_ok rfl) x_val (cons_v (var_ok rfl) x_val nil_ok)) rfl e1
  unfold bOut7
  refine seq_nx (setM_ok' h1) ?_
  exact e
end
end Ev

set_option linter.all false
set_option maxRecDepth 100000
set_option maxHeartbeats 400000
/-! k07: written texts; the law. -/
namespace Ev
open PySem
def g1S : Str := Str.ofString (toString GRT)
def g2S : Str := Str.ofString (toString (GRT + 1))
def qa1 : List P := [.str "b2 r3 / 1 2", .str "b1 g1 b4 / 0 3 4", .str "", .str "/", .str " / ", .str "b2 / 1", .str "b2 / 1 2 3 4", .str "b2 /1 2", .str "b2  r3 / 1 2"]
def qa2 : List P := [.str "b2 r3 /  1 2", .str "b2 r3 / 1 2 ", .str " b2 r3 / 1 2", .str "b2r3 / 1 2", .str "b02 / 1 2", .str "b2 / 01 2", .str "b0 / 1 2"]
def qa3 : List P := [.str ("b" ++ g1S ++ " / 0 9"), .str ("b" ++ g2S ++ " / 0 9"), .str "b2 / 1 10", .str "b2 / / 1 2"]
def qa4 : List P := [.str (strRepN "b2 " 6 ++ "/ 0 0"), .str (strRepN "b2 " 7 ++ "/ 0 0"), .str "b+2 / 1 2", .str "b2 / -1 2", .str "b2 r3 / 1 2
", .str "w2 / 1 2"]
def qa5 : List P := [.str "B2 / 1 2", .str "b / 1 2"]
def qaA : List P := qa1 ++ qa2 ++ qa3 ++ qa4 ++ qa5
theorem qa_all : qaA.all (vbB 100 0) = true := by kernel_rfl
theorem qa_ok : ∀ q ∈ qaA, VB 100 0 q := fun q hq => VB_of ((List.all_eq_true.mp qa_all) q hq)
theorem c_str_b {i : Int} (h : i.natAbs < 2 ^ 1000) : cStr [.int i] = some (.p (.str (Str.ofString (toString i)))) := if_pos h
theorem c_str_g : cStr [.int GRT] = some (.p (.str g1S)) := c_str_b (by decide +kernel)
theorem c_str_g1 : cStr [.int (GRT + 1)] = some (.p (.str g2S)) := c_str_b (by decide +kernel)
theorem ad1 : oAdd (.str "b") (.str g1S) = some (.p (.str ("b" ++ g1S))) := oAdd_s (Nat.le_trans (show (cs "b").length + (cs g1S).length ≤ 1000 by decide +kernel) lim_big)
theorem ad2 : oAdd (.str ("b" ++ g1S)) (.str " / 0 9") = some (.p (.str ("b" ++ g1S ++ " / 0 9"))) := oAdd_s (Nat.le_trans (show (cs ("b" ++ g1S)).length + (cs " / 0 9").length ≤ 1000 by decide +kernel) lim_big)
theorem ad3 : oAdd (.str "b") (.str g2S) = some (.p (.str ("b" ++ g2S))) := oAdd_s (Nat.le_trans (show (cs "b").length + (cs g2S).length ≤ 1000 by decide +kernel) lim_big)
theorem ad4 : oAdd (.str ("b" ++ g2S)) (.str " / 0 9") = some (.p (.str ("b" ++ g2S ++ " / 0 9"))) := oAdd_s (Nat.le_trans (show (cs ("b" ++ g2S)).length + (cs " / 0 9").length ≤ 1000 by decide +kernel) lim_big)
theorem ad5 : oMul (.str "b2 ") (.int 6) = some (.p (.str (strRepN "b2 " 6))) := by kernel_rfl
theorem ad6 : oMul (.str "b2 ") (.int 7) = some (.p (.str (strRepN "b2 " 7))) := by kernel_rfl
theorem ad7 : oAdd (.str (strRepN "b2 " 6)) (.str "/ 0 0") = some (.p (.str (strRepN "b2 " 6 ++ "/ 0 0"))) := oAdd_s (Nat.le_trans (show (cs (strRepN "b2 " 6)).length + (cs "/ 0 0").length ≤ 1000 by decide +kernel) lim_big)
theorem ad8 : oAdd (.str (strRepN "b2 " 7)) (.str "/ 0 0") = some (.p (.str (strRepN "b2 " 7 ++ "/ 0 0"))) := oAdd_s (Nat.le_trans (show (cs (strRepN "b2 " 7)).length + (cs "/ 0 0").length ≤ 1000 by decide +kernel) lim_big)
theorem grt_1 : oAdd (.int GRT) (.int 1) = some (.p (.int (GRT + 1))) := rfl
def rbF : List (Str × Int) := [("b", 1), ("g", 1), ("b", 4)]
def stF : List Int := [0, 3, 4]
theorem mokF : MOk rbF stF := { l1 := by decide, l2 := by decide, c := by decide +kernel, s1 := by decide, s2 := by decide }
theorem txtF : SX.S (txtL rbF stF) = "b1 g1 b4 / 0 3 4" := by kernel_rfl
local macro_rules
  | `(tactic| infer_instance) => `(tactic| first
    | with_reducible exact nil_ok
    | with_reducible exact cst_ok
    | with_reducible exact nil_s
    | with_reducible exact raise_ok
    | with_reducible exact x_val
    | with_reducible exact x_valn
    | with_reducible exact x_vall
    | with_reducible exact get_p
    | with_reducible exact get_n
    | (with_reducible apply getl_); first | with_reducible assumption | infer_instance
    | (with_reducible apply var_ok); first | with_reducible assumption | rfl
    | with_reducible exact getL0
    | with_reducible exact sNone_ok
    | (with_reducible apply sSome_ok) <;> infer_instance
    | (with_reducible apply eSl_ok) <;> infer_instance
    | (with_reducible apply rng_ok) <;> infer_instance
    | (with_reducible apply iof_str) <;> infer_instance
    | (with_reducible apply iof_nw) <;> infer_instance
    | (with_reducible apply iof_lst) <;> infer_instance
    | (with_reducible apply iof_tup) <;> infer_instance
    | with_reducible exact allP0
    | (with_reducible apply getLc) <;> infer_instance
    | (with_reducible apply allPc) <;> infer_instance
    | (with_reducible apply cons_v) <;> infer_instance
    | (with_reducible apply seq_nx) <;> infer_instance
    | (with_reducible apply seq_rt) <;> infer_instance
    | (with_reducible apply seq_er) <;> infer_instance
    | (with_reducible apply set_v) <;> infer_instance
    | (with_reducible apply setM_ok') <;> infer_instance
    | (with_reducible apply ret_ok) <;> infer_instance
    | (with_reducible apply exp_ok) <;> infer_instance
    | (with_reducible apply exp_er) <;> infer_instance
    | (with_reducible apply if_tt) <;> infer_instance
    | (with_reducible apply if_ff) <;> infer_instance
    | (with_reducible apply bof_ok) <;> infer_instance
    | (with_reducible apply btru_ok) <;> infer_instance
    | (with_reducible apply bnot_t) <;> infer_instance
    | (with_reducible apply bnot_f) <;> infer_instance
    | (with_reducible apply band_tt) <;> infer_instance
    | (with_reducible apply band_f) <;> infer_instance
    | (with_reducible apply bor_t) <;> infer_instance
    | (with_reducible apply bor_ff) <;> infer_instance
    | (with_reducible apply and_tt) <;> infer_instance
    | (with_reducible apply and_ff) <;> infer_instance
    | (with_reducible apply ife_tt) <;> infer_instance
    | (with_reducible apply ife_ff) <;> infer_instance
    | (with_reducible apply not_t) <;> infer_instance
    | (with_reducible apply not_f) <;> infer_instance
    | (with_reducible apply neg_ok) <;> infer_instance
    | (with_reducible apply isi_ok) <;> infer_instance
    | (with_reducible apply chain_t) <;> infer_instance
    | (with_reducible apply chain_f) <;> infer_instance
    | (with_reducible apply bin_ok) <;> infer_instance
    | (with_reducible apply callB_ok) <;> infer_instance
    | (with_reducible apply mt_ok) <;> infer_instance
    | (with_reducible apply call_ok) <;> infer_instance
    | (with_reducible apply call_er) <;> infer_instance
    | (with_reducible apply word_er) <;> infer_instance
    | (with_reducible apply lst_okN) <;> infer_instance
    | (with_reducible apply tup_okN) <;> infer_instance
    | (with_reducible apply par_ok) <;> infer_instance
    | with_reducible assumption
    | ((with_reducible apply lt_t); omega)
    | ((with_reducible apply lt_f); omega)
    | ((with_reducible apply le_t); omega)
    | ((with_reducible apply le_f); omega)
    | ((with_reducible apply gt_t); omega)
    | ((with_reducible apply gt_f); omega)
    | ((with_reducible apply ge_t); omega)
    | ((with_reducible apply ge_f); omega)
    | ((with_reducible apply eq_t); omega)
    | ((with_reducible apply eq_f); omega)
    | ((with_reducible apply ne_t); omega)
    | ((with_reducible apply ne_f); omega)
    | ((with_reducible apply o_mod_i); omega)
    | (with_reducible apply mul_small_l) <;> omega
    | (with_reducible apply mul_small_r) <;> omega
    | with_reducible exact isi1 | with_reducible exact isi2 | with_reducible exact isi3 | with_reducible exact isi4 | with_reducible exact isi5 | with_reducible exact isi6
    | ((with_reducible apply Nat.le_of_ble_eq_true); rfl)
    | rfl)

section
variable {M : Sto} {σ : Fr}
theorem qe1 : eLst (aCons (eC (.str "b2 r3 / 1 2")) (aCons (eC (.str "b1 g1 b4 / 0 3 4")) (aCons (eC (.str "")) (aCons (eC (.str "/")) (aCons (eC (.str " / ")) (aCons (eC (.str "b2 / 1")) (aCons (eC (.str "b2 / 1 2 3 4")) (aCons (eC (.str "b2 /1 2")) (aCons (eC (.str "b2  r3 / 1 2")) aNil))))))))) σ M = .ok (.nw qa1) M := by
  unfold qa1
  infer_instance
theorem qe2 : eLst (aCons (eC (.str "b2 r3 /  1 2")) (aCons (eC (.str "b2 r3 / 1 2 ")) (aCons (eC (.str " b2 r3 / 1 2")) (aCons (eC (.str "b2r3 / 1 2")) (aCons (eC (.str "b02 / 1 2")) (aCons (eC (.str "b2 / 01 2")) (aCons (eC (.str "b0 / 1 2")) aNil))))))) σ M = .ok (.nw qa2) M := by
  unfold qa2
  infer_instance
theorem qe3 : eLst (aCons (eBin oAdd (eBin oAdd (eC (.str "b")) (eCB cStr (aCons (eBin oPow (eC (.int 10)) (eC (.int 30))) aNil))) (eC (.str " / 0 9"))) (aCons (eBin oAdd (eBin oAdd (eC (.str "b")) (eCB cStr (aCons (eBin oAdd (eBin oPow (eC (.int 10)) (eC (.int 30))) (eC (.int 1))) aNil))) (eC (.str " / 0 9"))) (aCons (eC (.str "b2 / 1 10")) (aCons (eC (.str "b2 / / 1 2")) aNil)))) σ M = .ok (.nw qa3) M := by
  have p3 := p30
  have a1 := ad1
  have a2 := ad2
  have a3 := ad3
  have a4 := ad4
  have a5 := c_str_g
  have a6 := c_str_g1
  have a7 := grt_1
  unfold qa3
  infer_instance
theorem qe4 : eLst (aCons (eBin oAdd (eBin oMul (eC (.str "b2 ")) (eC (.int 6))) (eC (.str "/ 0 0"))) (aCons (eBin oAdd (eBin oMul (eC (.str "b2 ")) (eC (.int 7))) (eC (.str "/ 0 0"))) (aCons (eC (.str "b+2 / 1 2")) (aCons (eC (.str "b2 / -1 2")) (aCons (eC (.str "b2 r3 / 1 2
")) (aCons (eC (.str "w2 / 1 2")) aNil)))))) σ M = .ok (.nw qa4) M := by
  have a1 := ad5
  have a2 := ad6
  have a3 := ad7
  have a4 := ad8
  unfold qa4
  infer_instance
theorem qe5 : eLst (aCons (eC (.str "B2 / 1 2")) (aCons (eC (.str "b / 1 2")) aNil)) σ M = .ok (.nw qa5) M := by
  unfold qa5
  infer_instance
def bEn7 : EvS := (sSeq (sSet 2 (eLst (aCons (eC (.str "b2 r3 / 1 2")) (aCons (eC (.str "b1 g1 b4 / 0 3 4")) (aCons (eC (.str "")) (aCons (eC (.str "/")) (aCons (eC (.str " / ")) (aCons (eC (.str "b2 / 1")) (aCons (eC (.str "b2 / 1 2 3 4")) (aCons (eC (.str "b2 /1 2")) (aCons (eC (.str "b2  r3 / 1 2")) aNil)))))))))))
    (sSeq (sSet 2 (eBin oAdd (eVar 2) (eLst (aCons (eC (.str "b2 r3 /  1 2")) (aCons (eC (.str "b2 r3 / 1 2 ")) (aCons (eC (.str " b2 r3 / 1 2")) (aCons (eC (.str "b2r3 / 1 2")) (aCons (eC (.str "b02 / 1 2")) (aCons (eC (.str "b2 / 01 2")) (aCons (eC (.str "b0 / 1 2")) aNil))))))))))
    (sSeq (sSet 2 (eBin oAdd (eVar 2) (eLst (aCons (eBin oAdd (eBin oAdd (eC (.str "b")) (eCB cStr (aCons (eBin oPow (eC (.int 10)) (eC (.int 30))) aNil))) (eC (.str " / 0 9"))) (aCons (eBin oAdd (eBin oAdd (eC (.str "b")) (eCB cStr (aCons (eBin oAdd (eBin oPow (eC (.int 10)) (eC (.int 30))) (eC (.int 1))) aNil))) (eC (.str " / 0 9"))) (aCons (eC (.str "b2 / 1 10")) (aCons (eC (.str "b2 / / 1 2")) aNil)))))))
    (sSeq (sSet 2 (eBin oAdd (eVar 2) (eLst (aCons (eBin oAdd (eBin oMul (eC (.str "b2 ")) (eC (.int 6))) (eC (.str "/ 0 0"))) (aCons (eBin oAdd (eBin oMul (eC (.str "b2 ")) (eC (.int 7))) (eC (.str "/ 0 0"))) (aCons (eC (.str "b+2 / 1 2")) (aCons (eC (.str "b2 / -1 2")) (aCons (eC (.str "b2 r3 / 1 2
")) (aCons (eC (.str "w2 / 1 2")) aNil)))))))))
    (sSeq (sSet 2 (eBin oAdd (eVar 2) (eLst (aCons (eC (.str "B2 / 1 2")) (aCons (eC (.str "b / 1 2")) aNil)))))
    (sSeq (sIf (bOf (eBin oNe (eLc (.nm 10) [10] (iOf (eVar 2)) (bOf (eBin oNe (eCall 1 F__law_read (aCons (eVar 10) aNil)) (eCall 1 F__law_due (aCons (eVar 10) aNil)))) (eVar 10)) (eLst aNil))) (sSeq (sRet (eC (.bl false)))
    sNil) sNil)
    (sSeq (sRet (eBin oEq (eCall 1 F_read_machine (aCons (eC (.str "b1 g1 b4 / 0 3 4")) aNil)) (eTup (aCons (eTup (aCons (eTup (aCons (eC (.str "b")) (aCons (eC (.int 1)) aNil))) (aCons (eTup (aCons (eC (.str "g")) (aCons (eC (.int 1)) aNil))) (aCons (eTup (aCons (eC (.str "b")) (aCons (eC (.int 4)) aNil))) aNil)))) (aCons (eTup (aCons (eC (.int 0)) (aCons (eC (.int 3)) (aCons (eC (.int 4)) aNil)))) aNil)))))
    sNil)))))))
theorem bl7_eq : b_law = (sSeq (sFor (.nm 1) (iRange1 (aCons (eCB cMax (aCons (eC (.int 6)) (aCons (eCB cMin (aCons (eC (.int 14)) (aCons (eCB cLen (aCons (eVar 0) aNil)) aNil))) aNil))) aNil)) (sSeq (sSetM 3 (eCall 2 F__law_spool (aCons (eVar 0) (aCons (eVar 1) aNil)))) (sSeq (sFor (.nm 4) (iOf (eTup (aCons (eC (.bl false)) (aCons (eC (.bl true)) aNil)))) bMc) bOd))) bEn7) := rfl
theorem end7_ok {x0 x1 x2 x3 x4 x5 x6 x7 x8 x9 : Option D} : bEn7 [x0, x1, x2, x3, x4, x5, x6, x7, x8, x9, none] M = .ok (.rt (.p (.bl true))) M := by
  have a1 : oAdd (.lst qa1) (.lst qa2) = some (.nw (qa1 ++ qa2)) := oAdd_l (lim_n (Nat.le_of_ble_eq_true rfl))
  have a2 : oAdd (.lst (qa1 ++ qa2)) (.lst qa3) = some (.nw (qa1 ++ qa2 ++ qa3)) := oAdd_l (lim_n (Nat.le_of_ble_eq_true rfl))
  have a3 : oAdd (.lst (qa1 ++ qa2 ++ qa3)) (.lst qa4) = some (.nw (qa1 ++ qa2 ++ qa3 ++ qa4)) := oAdd_l (lim_n (Nat.le_of_ble_eq_true rfl))
  have a4 : oAdd (.lst (qa1 ++ qa2 ++ qa3 ++ qa4)) (.lst qa5) = some (.nw qaA) := oAdd_l (lim_n (Nat.le_of_ble_eq_true rfl))
  unfold bEn7
  refine seq_nx (M1 := M) (set_v qe1 x_valn) ?_
  refine seq_nx (M1 := M) (set_v (bin_ok (var_ok rfl) qe2 get_p get_n a1) x_valn) ?_
  refine seq_nx (M1 := M) (set_v (bin_ok (var_ok rfl) qe3 get_p get_n a2) x_valn) ?_
  refine seq_nx (M1 := M) (set_v (bin_ok (var_ok rfl) qe4 get_p get_n a3) x_valn) ?_
  refine seq_nx (M1 := M) (set_v (bin_ok (var_ok rfl) qe5 get_p get_n a4) x_valn) ?_
  have f2 : eLc (.nm 10) [10] (iOf (eVar 2)) (bOf (eBin oNe (eCall 1 F__law_read (aCons (eVar 10) aNil)) (eCall 1 F__law_due (aCons (eVar 10) aNil)))) (eVar 10) [x0, x1, some (.p (.lst qaA)), x3, x4, x5, x6, x7, x8, x9, none] M = .ok (.nw (qaA.filterMap fun p => (none : Option P))) M := by
    refine eLc_pure (fun p => none) (iof_lst (var_ok rfl)) rfl (fun p hp => ⟨_, x_nm, fun M' => ⟨?_, fun r hr => by cases hr⟩⟩) (lim_n (Nat.le_of_ble_eq_true rfl))
    obtain ⟨w, e1, e2, hw⟩ := same_any (M := M') (qa_ok p hp) (by decide)
    exact bof_ok (bin_ok (call_ok (n := 1) (M1 := M') (cons_v (var_ok rfl) x_val nil_ok) rfl e1) (call_ok (n := 1) (M1 := M') (cons_v (var_ok rfl) x_val nil_ok) rfl e2) get_p get_p (oNe_refl hw))
  have f0 : qaA.filterMap (fun p => (none : Option P)) = [] := by rfl
  rw [f0] at f2
  have f3 : eLst aNil [x0, x1, some (.p (.lst qaA)), x3, x4, x5, x6, x7, x8, x9, none] M = .ok (.nw []) M := lst_okN (M1 := M) (ds := []) nil_ok rfl (by decide)
  have f4 : oNe (.lst []) (.lst []) = some (.p (.bl false)) := ne_nil (L := []) rfl
  refine seq_nx (M1 := M) (if_ff (M1 := M) (bof_ok (bin_ok f2 f3 get_n get_n f4)) nil_s) ?_
  have r1 := read_text (M := M) mokF
  have r1 : F_read_machine [.p (.str (SX.S (txtL rbF stF)))] M = .ok (.p (machP rbF stF)) M := r1
  rw [txtF] at r1
  have t1 : eTup (aCons (eTup (aCons (eTup (aCons (eC (.str "b")) (aCons (eC (.int 1)) aNil))) (aCons (eTup (aCons (eC (.str "g")) (aCons (eC (.int 1)) aNil))) (aCons (eTup (aCons (eC (.str "b")) (aCons (eC (.int 4)) aNil))) aNil)))) (aCons (eTup (aCons (eC (.int 0)) (aCons (eC (.int 3)) (aCons (eC (.int 4)) aNil)))) aNil)) [x0, x1, some (.p (.lst qaA)), x3, x4, x5, x6, x7, x8, x9, none] M = .ok (.p (machP rbF stF)) M := by
    rw [show machP rbF stF = .tup [.tup [.tup [.str "b", .int 1], .tup [.str "g", .int 1], .tup [.str "b", .int 4]], .tup [.int 0, .int 3, .int 4]] from rfl]
    infer_instance
  exact seq_rt (ret_ok (bin_ok (call_ok (n := 1) (M1 := M) (cons_v cst_ok x_val nil_ok) rfl r1) t1 get_p get_p (oEq_refl (mach_dat mokF))))
theorem law_k07 (ns : List Int) : ∃ M, F_law [.p (.scr ns)] [] = .ok (.p (.bl true)) M := by
  unfold F_law
  rw [fnB1]
  obtain ⟨N, hN, hN2⟩ : ∃ N : Nat, N = max 6 (min 14 ns.length) ∧ (if (if (ns.length : Int) < 14 then (ns.length : Int) else 14) > 6 then (if (ns.length : Int) < 14 then (ns.length : Int) else 14) else 6) = N := by
    refine ⟨_, rfl, ?_⟩
    split <;> split <;> omega
  obtain ⟨σ', M', e, x1, x3, x4, x5, x6, x7, x8, x9, rfl⟩ := forL_inv (t := .nm 1) (b := bOut7) (fun σ M => ∃ x1 x3 x4 x5 x6 x7 x8 x9, σ = [some (.p (.scr ns)), x1, none, x3, x4, x5, x6, x7, x8, x9, none]) (rgs 0 N) [some (.p (.scr ns)), none, none, none, none, none, none, none, none, none, none] [] ⟨_, _, _, _, _, _, _, _, rfl⟩ (by
    rintro p hp σ M ⟨x1, x3, x4, x5, x6, x7, x8, x9, rfl⟩
    unfold rgs at hp
    obtain ⟨k, _, rfl⟩ := List.mem_map.mp hp
    obtain ⟨y3, y4, y5, y6, y7, y8, y9, M2, e2⟩ := out7_ok (ns := ns) (i := k) (x2 := none) (x3 := x3) (x4 := x4) (x5 := x5) (x6 := x6) (x7 := x7) (x8 := x8) (x9 := x9) (x10 := none) (M := M)
    refine ⟨[some (.p (.scr ns)), some (.p (.int (k : Int))), none, x3, x4, x5, x6, x7, x8, x9, none], [some (.p (.scr ns)), some (.p (.int (k : Int))), none, y3, y4, y5, y6, y7, y8, y9, none], M2, ?_, e2, ⟨_, _, _, _, _, _, _, _, rfl⟩⟩
    rw [Int.zero_add]
    exact x_nm)
  have hr : ∀ M, (iRange1 (aCons (eCB cMax (aCons (eC (.int 6)) (aCons (eCB cMin (aCons (eC (.int 14)) (aCons (eCB cLen (aCons (eVar 0) aNil)) aNil))) aNil))) aNil)) [some (.p (.scr ns)), none, none, none, none, none, none, none, none, none, none] M = .ok (rgs 0 N) M := fun M => by
    refine rng_ok (n := N) (cons_v (d := .p (.int (N : Int))) ?_ x_val nil_ok) (lim_n (by omega))
    refine callB_ok (ds := [.p (.int 6), .p (.int (if (ns.length : Int) < 14 then (ns.length : Int) else 14))]) (ps := [.int 6, .int (if (ns.length : Int) < 14 then (ns.length : Int) else 14)]) (M1 := M) (cons_v cst_ok x_val (cons_v (d := .p (.int (if (ns.length : Int) < 14 then (ns.length : Int) else 14))) (M1 := M) ?_ x_val nil_ok)) rfl ?_
    · refine callB_ok (ds := [.p (.int 14), .p (.int ns.length)]) (ps := [.int 14, .int ns.length]) (M1 := M) (cons_v cst_ok x_val (cons_v (d := .p (.int ns.length)) (M1 := M) ?_ x_val nil_ok)) rfl rfl
      exact callB_ok (ds := [.p (.scr ns)]) (ps := [.scr ns]) (M1 := M) (cons_v (var_ok rfl) x_val nil_ok) rfl rfl
    · rw [← hN2]; rfl
  refine ⟨[], ?_⟩
  have key : b_law [some (.p (.scr ns)), none, none, none, none, none, none, none, none, none, none] [] = .ok (.rt (.p (.bl true))) M' := by
    rw [bl7_eq]
    exact seq_nx (Eq.trans (for_ok (hr _)) e) end7_ok
  have eb : b_law (some (.p (.scr ns)) :: List.replicate (11 - 1) none) [] = .ok (.rt (.p (.bl true))) M' := key
  rw [eb]
  rfl
end
end Ev

theorem PySem.Challenge.cw_stampribbon_k07_texts_of_machines_holds : PySem.Challenge.rw_stampribbon_k07_texts_of_machines.Holds := by
  exact Ev.holds_of fun ns _ => Ev.law_k07 ns
