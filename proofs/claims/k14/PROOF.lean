import PyProof.Rows.All
import Wide.All
import OpenK.AllK
import Wide.FinOn
import HandS.ForMost
import HandS.ForExc
import HandS.CallSlots
import HandS.Wide
import HandS.Conv
import HandS.IsInst
import HandS.Style
import HandS.Walk
import HandS.ExcCtx
import HandS.TupAny
import HandS.TupMul
import HandS.StrMore
import HandS.Flow
import HandS.StrSplit
import HandS.SetFor
import HandS.SortRule
import KE.GoesZip
import KE.GoesEnum
import HandS.Defaults
import PyProof.ExcBaseAll.ValueError
import HandS.Codes
import HandS.Head0
import HandS.Head1
import HandS.Head2
import HandS.HeadEnd
import HandS.HeadHook1
import HandS.HeadHook2
import PySem.Challenge.RW_stampribbon_k14_known_ribbons_by_hand
set_option Elab.async false
set_option linter.all false
set_option maxRecDepth 100000
set_option maxHeartbeats 4000000
/-! Core1: pure data, the store, what the abstract heap says of them. -/
namespace Ev
open PySem PySem.Spec PyProof.Rows L2

/-- pure data; scr: the script -/
inductive P where
  | non | bl (b : Bool) | int (i : Int) | str (s : Str) | tup (ps : List P) | lst (ps : List P) | fn (x : Str) | scr (ns : List Int)
/-- an object of the store -/
inductive MO where
  | lst (ps : List P)
  | ins (c : Str) (fs : List (Str × P))
/-- what an expression gives: data, a new list, an object of the store -/
inductive D where
  | p (p : P) | nw (ps : List P) | loc (n : Nat)
abbrev Sto := List MO
abbrev Fr := List (Option D)
inductive Out (α : Type) where
  | ok (a : α) (M : Sto) | er (c : Str) (n : Option Int) (M : Sto) | no
abbrev EvD := Fr → Sto → Out D
/-- the module's names, the written part -/
structure Mg where
  m : Str → Option Value
  K : PySem.W.Frag
abbrev _root_.L2.Cx.g (X : Cx) : Mg := ⟨X.mg, X.K⟩
/-- a list of the written part -/
def LitK (K : PySem.W.Frag) (a : Addr) (xs : List V) : Prop := ∃ (o : Obj) (its : Array Value) (n : Nat), K.lookup a = some o ∧ o.cls = .type "list" ∧ o.dict = none ∧ o.data = .seq its n ∧ its.size ≤ sizeLine ∧ Vals xs its.toList

mutual
/-- the value v is the datum p, over the heap H; ex: the addresses that may change -/
def Rep (g : Mg) (H : Hp) (ex : List Addr) : P → V → Prop
  | .non, v => v = .non
  | .bl b, v => v = .bl b
  | .int i, v => v = .int i
  | .str s, v => v = .str s
  | .tup ps, v => ∃ a vs, v = .ref a ∧ a ∉ ex ∧ H a = some (.tup vs) ∧ RepL g H ex ps vs
  | .lst ps, v => ∃ a vs, v = .ref a ∧ a ∉ ex ∧ H a = some (.lst vs) ∧ RepL g H ex ps vs
  | .fn x, v => ∃ a, v = .ref a ∧ g.m x = some (.ref a)
  | .scr ns, v => ∃ a, v = .ref a ∧ ((a ∉ ex ∧ ∃ o, H a = some (.frz o (.lst (ns.map V.int)))) ∨ LitK g.K a (ns.map V.int))
def RepL (g : Mg) (H : Hp) (ex : List Addr) : List P → List V → Prop
  | [], vs => vs = []
  | p :: ps, vs => ∃ v r, vs = v :: r ∧ Rep g H ex p v ∧ RepL g H ex ps r
end

/-- from (H, ex) to (H', ex') -/
structure Le (H : Hp) (ex : List Addr) (H' : Hp) (ex' : List Addr) : Prop where
  pre : ex <+: ex'
  keep : ∀ a u, a ∉ ex → H a = some u → H' a = some u
  new : ∀ a, a ∈ ex' → a ∈ ex ∨ H a = none
  back : ∀ a, H' a = none → H a = none
theorem Le.refl (H : Hp) (ex : List Addr) : Le H ex H ex := ⟨List.prefix_refl _, fun _ _ _ h => h, fun _ h => .inl h, fun _ h => h⟩
theorem Le.trans {H H1 H2 : Hp} {e e1 e2 : List Addr} (a : Le H e H1 e1) (b : Le H1 e1 H2 e2) : Le H e H2 e2 := by
  refine ⟨a.pre.trans b.pre, fun c u hc h => ?_, fun c hc => ?_, fun c h => a.back c (b.back c h)⟩
  · refine b.keep c u (fun z => ?_) (a.keep c u hc h)
    rcases a.new c z with z | z
    · exact hc z
    · rw [h] at z; cases z
  · rcases b.new c hc with z | z
    · exact a.new c z
    · exact .inr (a.back c z)
theorem Le.nin {H H' : Hp} {e e' : List Addr} (l : Le H e H' e') {a : Addr} {u : HO} (h : H a = some u) (ha : a ∉ e) : a ∉ e' := fun z => by
  rcases l.new a z with z | z
  · exact ha z
  · rw [h] at z; cases z
/-- a new object -/
theorem Le.upd {H : Hp} {e : List Addr} {p : Addr} {o : HO} (h : H p = none) : Le H e (upd H p o) e :=
  ⟨List.prefix_refl _, fun a u _ q => by rw [upd_ne (ne_of_none q h)]; exact q, fun _ q => .inl q, fun a q => by
    by_cases ha : a = p
    · rw [ha]; exact h
    · rw [upd_ne ha] at q; exact q⟩
/-- .. which may change from now on -/
theorem Le.updx {H : Hp} {e : List Addr} {p : Addr} {o : HO} (h : H p = none) : Le H e (L2.upd H p o) (e ++ [p]) :=
  ⟨List.prefix_append _ _, (Le.upd (e := e) h).keep, fun a q => by
    rcases List.mem_append.mp q with q | q
    · exact .inl q
    · rw [List.mem_singleton.mp q]; exact .inr h, (Le.upd (e := e) h).back⟩

section
variable {g : Mg} {H H' : Hp} {e e' : List Addr}
mutual
theorem Rep.mono (l : Le H e H' e') : ∀ {p : P} {v : V}, Rep g H e p v → Rep g H' e' p v
  | .non, _, h => h
  | .bl _, _, h => h
  | .int _, _, h => h
  | .str _, _, h => h
  | .tup _, _, h => by
    unfold Rep at h ⊢
    obtain ⟨a, vs, rfl, ha, h1, h2⟩ := h
    exact ⟨a, vs, rfl, l.nin h1 ha, l.keep a _ ha h1, RepL.mono l h2⟩
  | .lst _, _, h => by
    unfold Rep at h ⊢
    obtain ⟨a, vs, rfl, ha, h1, h2⟩ := h
    exact ⟨a, vs, rfl, l.nin h1 ha, l.keep a _ ha h1, RepL.mono l h2⟩
  | .fn _, _, h => h
  | .scr _, _, h => by
    unfold Rep at h ⊢
    obtain ⟨a, rfl, ⟨ha, o, h1⟩ | h⟩ := h
    · exact ⟨a, rfl, .inl ⟨l.nin h1 ha, o, l.keep a _ ha h1⟩⟩
    · exact ⟨a, rfl, .inr h⟩
theorem RepL.mono (l : Le H e H' e') : ∀ {ps : List P} {vs : List V}, RepL g H e ps vs → RepL g H' e' ps vs
  | [], _, h => h
  | _ :: _, _, h => by
    unfold RepL at h ⊢
    obtain ⟨v, r, rfl, h1, h2⟩ := h
    exact ⟨v, r, rfl, Rep.mono l h1, RepL.mono l h2⟩
end
mutual
theorem Rep.less (l : ∀ a, a ∈ e' → a ∈ e) : ∀ {p : P} {v : V}, Rep g H e p v → Rep g H e' p v
  | .non, _, h => h
  | .bl _, _, h => h
  | .int _, _, h => h
  | .str _, _, h => h
  | .tup _, _, h => by
    unfold Rep at h ⊢
    obtain ⟨a, vs, rfl, ha, h1, h2⟩ := h
    exact ⟨a, vs, rfl, fun z => ha (l a z), h1, RepL.less l h2⟩
  | .lst _, _, h => by
    unfold Rep at h ⊢
    obtain ⟨a, vs, rfl, ha, h1, h2⟩ := h
    exact ⟨a, vs, rfl, fun z => ha (l a z), h1, RepL.less l h2⟩
  | .fn _, _, h => h
  | .scr _, _, h => by
    unfold Rep at h ⊢
    obtain ⟨a, rfl, ⟨ha, o, h1⟩ | h⟩ := h
    · exact ⟨a, rfl, .inl ⟨fun z => ha (l a z), o, h1⟩⟩
    · exact ⟨a, rfl, .inr h⟩
theorem RepL.less (l : ∀ a, a ∈ e' → a ∈ e) : ∀ {ps : List P} {vs : List V}, RepL g H e ps vs → RepL g H e' ps vs
  | [], _, h => h
  | _ :: _, _, h => by
    unfold RepL at h ⊢
    obtain ⟨v, r, rfl, h1, h2⟩ := h
    exact ⟨v, r, rfl, Rep.less l h1, RepL.less l h2⟩
end
theorem RepL.length : ∀ {ps : List P} {vs : List V}, RepL g H e ps vs → vs.length = ps.length
  | [], _, h => by unfold RepL at h; rw [h]; rfl
  | _ :: _, _, h => by
    unfold RepL at h
    obtain ⟨v, r, rfl, h1, h2⟩ := h
    rw [List.length_cons, List.length_cons, h2.length]
theorem RepL.append : ∀ {ps qs : List P} {vs ws : List V}, RepL g H e ps vs → RepL g H e qs ws → RepL g H e (ps ++ qs) (vs ++ ws)
  | [], _, _, _, h, k => by unfold RepL at h; rw [h]; exact k
  | _ :: _, _, _, _, h, k => by
    unfold RepL at h
    obtain ⟨v, r, rfl, h1, h2⟩ := h
    show RepL g H e (_ :: (_ ++ _)) (v :: (r ++ _))
    unfold RepL
    exact ⟨v, _, rfl, h1, h2.append k⟩
theorem RepL.one {p : P} {v : V} (h : Rep g H e p v) : RepL g H e [p] [v] := by
  unfold RepL
  exact ⟨v, [], rfl, h, by unfold RepL; rfl⟩
theorem RepL.nil : RepL g H e [] [] := by unfold RepL; rfl
theorem RepL.cons {p : P} {v : V} {ps : List P} {vs : List V} (h : Rep g H e p v) (t : RepL g H e ps vs) : RepL g H e (p :: ps) (v :: vs) := by
  unfold RepL
  exact ⟨v, vs, rfl, h, t⟩
theorem RepL.nil_inv {vs : List V} (h : RepL g H e [] vs) : vs = [] := by unfold RepL at h; exact h
theorem RepL.cons_inv {p : P} {ps : List P} {vs : List V} (h : RepL g H e (p :: ps) vs) : ∃ v r, vs = v :: r ∧ Rep g H e p v ∧ RepL g H e ps r := by unfold RepL at h; exact h
theorem RepL.get : ∀ {ps : List P} {vs : List V} {i : Nat} {p : P}, RepL g H e ps vs → ps[i]? = some p → ∃ v, vs[i]? = some v ∧ Rep g H e p v
  | [], _, _, _, _, k => by simp at k
  | _ :: _, _, 0, _, h, k => by
    obtain ⟨v, r, rfl, h1, h2⟩ := h.cons_inv
    simp at k; subst k
    exact ⟨v, rfl, h1⟩
  | _ :: _, _, i + 1, _, h, k => by
    obtain ⟨v, r, rfl, h1, h2⟩ := h.cons_inv
    obtain ⟨w, e1, e2⟩ := RepL.get (i := i) h2 (by simpa using k)
    exact ⟨w, by simpa using e1, e2⟩
theorem RepL.take : ∀ {ps : List P} {vs : List V} (n : Nat), RepL g H e ps vs → RepL g H e (ps.take n) (vs.take n)
  | _, _, 0, _ => RepL.nil
  | [], _, n + 1, h => by rw [h.nil_inv]; exact RepL.nil
  | _ :: _, _, n + 1, h => by
    obtain ⟨v, r, rfl, h1, h2⟩ := h.cons_inv
    exact RepL.cons h1 (h2.take n)
theorem RepL.drop : ∀ {ps : List P} {vs : List V} (n : Nat), RepL g H e ps vs → RepL g H e (ps.drop n) (vs.drop n)
  | _, _, 0, h => h
  | [], _, n + 1, h => by rw [h.nil_inv]; exact RepL.nil
  | _ :: _, _, n + 1, h => by
    obtain ⟨v, r, rfl, h1, h2⟩ := h.cons_inv
    exact h2.drop n
theorem RepL.set : ∀ {ps : List P} {vs : List V} {p : P} {v : V} (i : Nat), RepL g H e ps vs → Rep g H e p v → RepL g H e (ps.set i p) (vs.set i v)
  | [], _, _, _, _, h, _ => by rw [h.nil_inv]; exact RepL.nil
  | _ :: _, _, _, _, 0, h, k => by
    obtain ⟨v, r, rfl, h1, h2⟩ := h.cons_inv
    exact RepL.cons k h2
  | _ :: _, _, _, _, i + 1, h, k => by
    obtain ⟨v, r, rfl, h1, h2⟩ := h.cons_inv
    exact RepL.cons h1 (h2.set i k)
theorem RepL.ints : ∀ {ns : List Int} {vs : List V}, RepL g H e (ns.map P.int) vs → vs = ns.map V.int
  | [], _, h => h.nil_inv
  | _ :: _, _, h => by
    obtain ⟨v, r, rfl, h1, h2⟩ := h.cons_inv
    unfold Rep at h1
    rw [h1, h2.ints]; rfl
theorem RepL.of_ints : ∀ (ns : List Int), RepL g H e (ns.map P.int) (ns.map V.int)
  | [] => RepL.nil
  | _ :: r => RepL.cons (by unfold Rep; rfl) (RepL.of_ints r)
theorem RepL.strs : ∀ {ns : List Str} {vs : List V}, RepL g H e (ns.map P.str) vs → vs = ns.map V.str
  | [], _, h => h.nil_inv
  | _ :: _, _, h => by
    obtain ⟨v, r, rfl, h1, h2⟩ := h.cons_inv
    unfold Rep at h1
    rw [h1, h2.strs]; rfl
theorem RepL.of_strs : ∀ (ns : List Str), RepL g H e (ns.map P.str) (ns.map V.str)
  | [] => RepL.nil
  | _ :: r => RepL.cons (by unfold Rep; rfl) (RepL.of_strs r)
end

/-! ### the store -/
/-- the fields of an instance -/
def RepF (g : Mg) (H : Hp) (ex : List Addr) : List (Str × P) → List (Str × V) → Prop
  | [], vs => vs = []
  | (x, p) :: fs, vs => ∃ v r, vs = (x, v) :: r ∧ Rep g H ex p v ∧ RepF g H ex fs r
/-- the object at a -/
def ObjR (g : Mg) (H : Hp) (ex : List Addr) (a : Addr) : MO → Prop
  | .lst ps => ∃ vs, H a = some (.lst vs) ∧ RepL g H ex ps vs
  | .ins c fs => ∃ C dx vs, g.m c = some (.ref C) ∧ H a = some (.ins C dx vs) ∧ RepF g H ex fs vs
structure StoOk (g : Mg) (H : Hp) (mu ex : List Addr) (M : Sto) : Prop where
  len : mu.length = M.length
  nd : mu.Nodup
  sub : ∀ a, a ∈ mu → a ∈ ex
  obj : ∀ (n : Nat) (mo : MO), M[n]? = some mo → ∃ a, mu[n]? = some a ∧ ObjR g H ex a mo
section
variable {g : Mg} {H H' : Hp} {e e' mu : List Addr} {M : Sto}
theorem RepF.mono (l : Le H e H' e') : ∀ {fs : List (Str × P)} {vs : List (Str × V)}, RepF g H e fs vs → RepF g H' e' fs vs
  | [], _, h => h
  | _ :: _, _, h => by
    obtain ⟨v, r, rfl, h1, h2⟩ := h
    exact ⟨v, r, rfl, h1.mono l, RepF.mono l h2⟩
theorem RepF.less (l : ∀ a, a ∈ e' → a ∈ e) : ∀ {fs : List (Str × P)} {vs : List (Str × V)}, RepF g H e fs vs → RepF g H e' fs vs
  | [], _, h => h
  | _ :: _, _, h => by
    obtain ⟨v, r, rfl, h1, h2⟩ := h
    exact ⟨v, r, rfl, h1.less l, RepF.less l h2⟩
theorem ObjR.less (l : ∀ a, a ∈ e' → a ∈ e) {a : Addr} : ∀ {mo : MO}, ObjR g H e a mo → ObjR g H e' a mo
  | .lst _, h => by
    obtain ⟨vs, h1, h2⟩ := h
    exact ⟨vs, h1, h2.less l⟩
  | .ins _ _, h => by
    obtain ⟨C, dx, vs, h1, h2, h3⟩ := h
    exact ⟨C, dx, vs, h1, h2, h3.less l⟩
theorem ObjR.some {a : Addr} : ∀ {mo : MO}, ObjR g H e a mo → ∃ u, H a = some u
  | .lst _, ⟨_, h, _⟩ => ⟨_, h⟩
  | .ins _ _, ⟨_, _, _, _, h, _⟩ => ⟨_, h⟩
theorem StoOk.less (h : StoOk g H mu e M) (l : ∀ a, a ∈ e' → a ∈ e) (s : ∀ a, a ∈ mu → a ∈ e') : StoOk g H mu e' M :=
  ⟨h.len, h.nd, s, fun n mo q => by
    obtain ⟨a, h1, h2⟩ := h.obj n mo q
    exact ⟨a, h1, h2.less l⟩⟩
/-- a new object, that the store does not hold -/
theorem ObjR.upd {p : Addr} {o : HO} (hp : H p = none) {a : Addr} : ∀ {mo : MO}, ObjR g H e a mo → ObjR g (L2.upd H p o) (e ++ [p]) a mo
  | .lst _, h => by
    obtain ⟨vs, h1, h2⟩ := h
    exact ⟨vs, by rw [upd_ne (ne_of_none h1 hp)]; exact h1, h2.mono (Le.updx hp)⟩
  | .ins _ _, h => by
    obtain ⟨C, dx, vs, h1, h2, h3⟩ := h
    exact ⟨C, dx, vs, h1, by rw [upd_ne (ne_of_none h2 hp)]; exact h2, h3.mono (Le.updx hp)⟩
theorem ObjR.updn {p : Addr} {o : HO} (hp : H p = none) {a : Addr} : ∀ {mo : MO}, ObjR g H e a mo → ObjR g (L2.upd H p o) e a mo
  | .lst _, h => by
    obtain ⟨vs, h1, h2⟩ := h
    exact ⟨vs, by rw [upd_ne (ne_of_none h1 hp)]; exact h1, h2.mono (Le.upd hp)⟩
  | .ins _ _, h => by
    obtain ⟨C, dx, vs, h1, h2, h3⟩ := h
    exact ⟨C, dx, vs, h1, by rw [upd_ne (ne_of_none h2 hp)]; exact h2, h3.mono (Le.upd hp)⟩
theorem StoOk.updx {p : Addr} {o : HO} (h : StoOk g H mu e M) (hp : H p = none) : StoOk g (L2.upd H p o) mu (e ++ [p]) M :=
  ⟨h.len, h.nd, fun a q => List.mem_append_left _ (h.sub a q), fun n mo q => by
    obtain ⟨a, h1, h2⟩ := h.obj n mo q
    exact ⟨a, h1, h2.upd hp⟩⟩
theorem StoOk.upd {p : Addr} {o : HO} (h : StoOk g H mu e M) (hp : H p = none) : StoOk g (L2.upd H p o) mu e M :=
  ⟨h.len, h.nd, h.sub, fun n mo q => by
    obtain ⟨a, h1, h2⟩ := h.obj n mo q
    exact ⟨a, h1, h2.updn hp⟩⟩
theorem StoOk.fresh {p : Addr} (h : StoOk g H mu e M) (hp : H p = none) : p ∉ mu := fun z => by
  obtain ⟨n, hn⟩ := List.getElem?_of_mem z
  have hl : n < M.length := by rw [← h.len]; exact (List.getElem?_eq_some_iff.mp hn).1
  obtain ⟨a, h1, h2⟩ := h.obj n M[n] (List.getElem?_eq_getElem hl)
  rw [hn] at h1
  cases h1
  obtain ⟨u, hu⟩ := h2.some
  rw [hp] at hu; cases hu
/-- one object more -/
theorem StoOk.push {p : Addr} {mo : MO} (h : StoOk g H mu (mu ++ [p]) M) (hp : p ∉ mu) (ho : ObjR g H (mu ++ [p]) p mo) : StoOk g H (mu ++ [p]) (mu ++ [p]) (M ++ [mo]) := by
  refine ⟨by rw [List.length_append, List.length_append, h.len]; rfl, ?_, fun _ q => q, fun n mo' q => ?_⟩
  · rw [List.nodup_append]
    refine ⟨h.nd, by simp, fun a ha b hb => ?_⟩
    rw [List.mem_singleton.mp hb]
    exact fun z => hp (z ▸ ha)
  · by_cases hn : n < M.length
    · rw [List.getElem?_append_left hn] at q
      obtain ⟨a, h1, h2⟩ := h.obj n mo' q
      exact ⟨a, by rw [List.getElem?_append_left (by rw [h.len]; exact hn)]; exact h1, h2⟩
    · rw [List.getElem?_append_right (by omega)] at q
      have hz : n - M.length = 0 := by
        by_cases z : n - M.length = 0
        · exact z
        · rw [List.getElem?_eq_none (by simp; omega)] at q; cases q
      rw [hz] at q
      simp at q
      subst q
      refine ⟨p, ?_, ho⟩
      rw [List.getElem?_append_right (by rw [h.len]; omega), h.len, hz]
      rfl
end

/-! ### results -/
def RepD (g : Mg) (H : Hp) (mu : List Addr) : D → V → Prop
  | .p p, v => Rep g H mu p v
  | .loc n, v => ∃ a, mu[n]? = some a ∧ v = .ref a
  | .nw _, _ => False
/-- behind an expression that began over H₀ -/
def Post (g : Mg) (H₀ H : Hp) (mu : List Addr) (M : Sto) (d : D) (v : V) : Prop :=
  match d with
  | .nw ps => ∃ p vs, v = .ref p ∧ H₀ p = none ∧ p ∉ mu ∧ H p = some (.lst vs) ∧ RepL g H (mu ++ [p]) ps vs ∧ StoOk g H mu (mu ++ [p]) M
  | d => StoOk g H mu mu M ∧ RepD g H mu d v
def D.val : D → D
  | .nw ps => .p (.lst ps)
  | d => d
theorem Post.val {g : Mg} {H₀ H : Hp} {mu : List Addr} {M : Sto} : ∀ {d : D} {v : V}, Post g H₀ H mu M d v → StoOk g H mu mu M ∧ RepD g H mu d.val v
  | .p _, _, h => h
  | .loc _, _, h => h
  | .nw _, _, h => by
    obtain ⟨p, vs, rfl, _, hp, h1, h2, h3⟩ := h
    have sub : ∀ a, a ∈ mu → a ∈ mu ++ [p] := fun a q => List.mem_append_left _ q
    refine ⟨h3.less sub fun _ q => q, ?_⟩
    show Rep g H mu (.lst _) _
    unfold Rep
    exact ⟨p, vs, rfl, hp, h1, h2.less sub⟩
theorem RepD.mono {g : Mg} {H H' : Hp} {mu mu' : List Addr} (l : Le H mu H' mu') : ∀ {d : D} {v : V}, RepD g H mu d v → RepD g H' mu' d v
  | .p _, _, h => Rep.mono l h
  | .loc n, _, h => by
    obtain ⟨a, h1, h2⟩ := h
    obtain ⟨t, rfl⟩ := l.pre
    refine ⟨a, ?_, h2⟩
    rw [List.getElem?_append_left (List.getElem?_eq_some_iff.mp h1).1]
    exact h1
  | .nw _, _, h => h.elim
/-- read, as it stands now: the datum -/
def D.get (M : Sto) : D → Option P
  | .p q => some q
  | .nw ps => some (.lst ps)
  | .loc n => match M[n]? with
    | some (.lst ps) => some (.lst ps)
    | _ => none
/-- v may be read as p: p's list may be one of the store's -/
def RdP (g : Mg) (H : Hp) (ex : List Addr) (p : P) (v : V) : Prop :=
  Rep g H ex p v ∨ ∃ ps a vs, p = .lst ps ∧ v = .ref a ∧ H a = some (.lst vs) ∧ RepL g H ex ps vs
theorem RepD.get {g : Mg} {H : Hp} {mu : List Addr} {M : Sto} {p : P} (s : StoOk g H mu mu M) : ∀ {d : D} {v : V}, RepD g H mu d v → d.get M = some p → RdP g H mu p v
  | .p _, _, h, q => by cases q; exact .inl h
  | .loc n, _, h, q => by
    obtain ⟨a, h1, rfl⟩ := h
    have q : (match M[n]? with
      | some (.lst ps) => some (P.lst ps)
      | _ => none) = some p := q
    split at q
    · rename_i ps hn
      cases q
      obtain ⟨b, e1, vs, e2, e3⟩ := s.obj n _ hn
      rw [h1] at e1; cases e1
      exact .inr ⟨ps, _, vs, rfl, rfl, e2, e3⟩
    · cases q
  | .nw _, _, h, _ => h.elim
theorem get_val {M : Sto} (d : D) : d.val.get M = d.get M := by cases d <;> rfl

/-! ### slots -/
structure SlOk (g : Mg) (H : Hp) (mu : List Addr) (σ : Fr) (τ : L2.St) : Prop where
  len : σ.length = τ.length
  at_ : ∀ (i : Nat) (d : D), σ[i]? = some (some d) → ∃ v, τ[i]? = some (some v) ∧ RepD g H mu d v
theorem SlOk.mono {g : Mg} {H H' : Hp} {mu mu' : List Addr} {σ : Fr} {τ : L2.St} (l : Le H mu H' mu') (s : SlOk g H mu σ τ) : SlOk g H' mu' σ τ :=
  ⟨s.len, fun i d h => by
    obtain ⟨v, h1, h2⟩ := s.at_ i d h
    exact ⟨v, h1, h2.mono l⟩⟩
theorem SlOk.set {g : Mg} {H : Hp} {mu : List Addr} {σ : Fr} {τ : L2.St} {d : D} {v : V} (i : Nat) (s : SlOk g H mu σ τ) (r : RepD g H mu d v) : SlOk g H mu (σ.set i (some d)) (τ.set i (some v)) := by
  refine ⟨by rw [List.length_set, List.length_set]; exact s.len, fun j d' h => ?_⟩
  by_cases hj : i = j
  · subst hj
    by_cases hi : i < σ.length
    · rw [List.getElem?_set_self hi] at h
      cases h
      exact ⟨v, List.getElem?_set_self (by rw [← s.len]; exact hi), r⟩
    · rw [List.getElem?_eq_none (by rw [List.length_set]; omega)] at h; cases h
  · rw [List.getElem?_set_ne hj] at h
    obtain ⟨w, h1, h2⟩ := s.at_ j d' h
    exact ⟨w, by rw [List.getElem?_set_ne hj]; exact h1, h2⟩
theorem SlOk.none {g : Mg} {H : Hp} {mu : List Addr} {σ : Fr} {τ : L2.St} {v : Option V} (i : Nat) (s : SlOk g H mu σ τ) : SlOk g H mu (σ.set i Option.none) (τ.set i v) := by
  refine ⟨by rw [List.length_set, List.length_set]; exact s.len, fun j d' h => ?_⟩
  by_cases hj : i = j
  · subst hj
    by_cases hi : i < σ.length
    · rw [List.getElem?_set_self hi] at h; cases h
    · rw [List.getElem?_eq_none (by rw [List.length_set]; omega)] at h; cases h
  · rw [List.getElem?_set_ne hj] at h
    obtain ⟨w, h1, h2⟩ := s.at_ j d' h
    exact ⟨w, by rw [List.getElem?_set_ne hj]; exact h1, h2⟩

/-! ### exceptions -/
/-- an error of the class c in the air: its class, its dict; n: the one field that it has, if any -/
def fieldOf (c : Str) : Str := if c = ("TooMany" : Str) then "limit" else "place"
def ExcR (g : Mg) (c : Str) (n : Option Int) (cls : Value) (dd : Option Addr) (H : Hp) : Prop :=
  ∃ C, g.m c = some (.ref C) ∧ cls = .ref C ∧ match n with
    | none => dd = none
    | some k => ∃ d, dd = some d ∧ H d = some (.xd [(fieldOf c, .int k)])

/-! ### what the combinators say of the syntax -/
def PostO (g : Mg) (H : Hp) (mu : List Addr) (τ : L2.St) (W : WX) (o : Out D) (Q : VK) : Prop :=
  match o with
  | .ok d M' => ∀ v H' mu', Le H mu H' mu' → Post g H H' mu' M' d v → Q v H'
  | .er c n M' => ∀ cls dd H' mu', Le H mu H' mu' → StoOk g H' mu' mu' M' → ExcR g c n cls dd H' → W cls dd τ H'
  | .no => False
def tE (g : Mg) (W : WX) (f : EvD) : TE := fun τ H Q => ∃ σ M mu, SlOk g H mu σ τ ∧ StoOk g H mu mu M ∧ PostO g H mu τ W (f σ M) Q
def PEv (X : Cx) (e : Expr) (f : EvD) : Prop := ∀ W, L2N.Takes X W → PE X e (tE X.g W f)
theorem PE.imp {X : Cx} {e : Expr} {t t' : TE} (h : PE X e t) (i : ∀ τ H Q, t' τ H Q → t τ H Q) : PE X e t' := ⟨fun pins s σ H Q I q => h.run pins s σ H Q I (i σ H Q q)⟩
end Ev

set_option Elab.async false
set_option linter.all false
set_option maxRecDepth 100000
set_option maxHeartbeats 4000000
/-! Core2: combinators of expressions. -/
namespace Ev
open PySem PySem.Spec PyProof.Rows L2

@[simp] def Out.bind {α β : Type} : Out α → (α → Sto → Out β) → Out β
  | .ok a M, k => k a M
  | .er c n M, _ => .er c n M
  | .no, _ => .no

section
variable {g : Mg} {H H' : Hp} {mu mu' : List Addr} {τ : L2.St} {W : WX} {Q Q' : VK}
theorem Post.back {H₀ H₁ : Hp} {M : Sto} {d : D} {v : V} (b : ∀ a, H₁ a = none → H₀ a = none) (p : Post g H₁ H mu M d v) : Post g H₀ H mu M d v := by
  cases d with
  | nw ps =>
    obtain ⟨p, vs, e, h0, r⟩ := p
    exact ⟨p, vs, e, b _ h0, r⟩
  | p _ => exact p
  | loc _ => exact p
theorem PostO.shift {o : Out D} (l : Le H mu H' mu') (h : PostO g H mu τ W o Q) : PostO g H' mu' τ W o Q := by
  cases o with
  | ok d M => exact fun v H2 mu2 l2 p => h v H2 mu2 (l.trans l2) (p.back l.back)
  | er c n M => exact fun cls dd H2 mu2 l2 s x => h cls dd H2 mu2 (l.trans l2) s x
  | no => exact h
theorem PostO.mono {o : Out D} (h : PostO g H mu τ W o Q) (i : ∀ v H', Q v H' → Q' v H') : PostO g H mu τ W o Q' := by
  cases o with
  | ok d M => exact fun v H2 mu2 l2 p => i _ _ (h v H2 mu2 l2 p)
  | er c n M => exact h
  | no => exact h
/-- an expression first, then what comes behind -/
def Then (g : Mg) (H : Hp) (mu : List Addr) (K : D → Sto → Hp → List Addr → Prop) : VK := fun v H' => ∃ mu' d M', Le H mu H' mu' ∧ StoOk g H' mu' mu' M' ∧ RepD g H' mu' d.val v ∧ K d M' H' mu'
theorem PostO.bind {o : Out D} {k : D → Sto → Out D} (h : PostO g H mu τ W (o.bind k) Q) : PostO g H mu τ W o (Then g H mu fun d M' H' mu' => PostO g H' mu' τ W (k d M') Q) := by
  cases o with
  | ok d M => exact fun v H2 mu2 l2 p => ⟨mu2, d, M, l2, p.val.1, p.val.2, PostO.shift l2 h⟩
  | er c n M => exact h
  | no => exact h.elim
end

/-- an argument list -/
def RepDL (g : Mg) (H : Hp) (mu : List Addr) : List D → List V → Prop
  | [], vs => vs = []
  | d :: ds, vs => ∃ v r, vs = v :: r ∧ RepD g H mu d v ∧ RepDL g H mu ds r
theorem RepDL.mono {g : Mg} {H H' : Hp} {mu mu' : List Addr} (l : Le H mu H' mu') : ∀ {ds : List D} {vs : List V}, RepDL g H mu ds vs → RepDL g H' mu' ds vs
  | [], _, h => h
  | _ :: _, _, ⟨v, r, e, h1, h2⟩ => ⟨v, r, e, h1.mono l, RepDL.mono l h2⟩
theorem RepDL.length {g : Mg} {H : Hp} {mu : List Addr} : ∀ {ds : List D} {vs : List V}, RepDL g H mu ds vs → vs.length = ds.length
  | [], _, h => by rw [show _ = [] from h]; rfl
  | _ :: _, _, ⟨v, r, e, h1, h2⟩ => by rw [e, List.length_cons, List.length_cons, h2.length]
abbrev EvA := Fr → Sto → Out (List D)
def PostA (g : Mg) (H : Hp) (mu : List Addr) (τ : L2.St) (W : WX) (o : Out (List D)) (Q : List V → Hp → Prop) : Prop :=
  match o with
  | .ok ds M' => ∀ vs H' mu', Le H mu H' mu' → StoOk g H' mu' mu' M' → RepDL g H' mu' ds vs → Q vs H'
  | .er c n M' => ∀ cls dd H' mu', Le H mu H' mu' → StoOk g H' mu' mu' M' → ExcR g c n cls dd H' → W cls dd τ H'
  | .no => False
def tAr (g : Mg) (W : WX) (f : EvA) : TA := fun τ H Q => ∃ σ M mu, SlOk g H mu σ τ ∧ StoOk g H mu mu M ∧ PostA g H mu τ W (f σ M) Q
def PAv (X : Cx) (es : List Expr) (f : EvA) : Prop := ∀ W, L2N.Takes X W → PA X es (tAr X.g W f)
theorem PA.imp {X : Cx} {e : List Expr} {t t' : TA} (h : PA X e t) (i : ∀ τ H Q, t' τ H Q → t τ H Q) : PA X e t' := ⟨fun pos pins s σ H Q I q => h.run pos pins s σ H Q I (i σ H Q q)⟩
def aNil : EvA := fun _ M => .ok [] M
def aCons (f : EvD) (r : EvA) : EvA := fun σ M => (f σ M).bind fun d M1 => (r σ M1).bind fun ds M2 => .ok (d.val :: ds) M2
section
variable {g : Mg} {H H' : Hp} {mu mu' : List Addr} {τ : L2.St} {W : WX} {Q Q' : VK} {QA QA' : List V → Hp → Prop}
theorem PostA.shift {o : Out (List D)} (l : Le H mu H' mu') (h : PostA g H mu τ W o QA) : PostA g H' mu' τ W o QA := by
  cases o with
  | ok d M => exact fun v H2 mu2 l2 p => h v H2 mu2 (l.trans l2) p
  | er c n M => exact fun cls dd H2 mu2 l2 s x => h cls dd H2 mu2 (l.trans l2) s x
  | no => exact h
theorem PostA.mono {o : Out (List D)} (h : PostA g H mu τ W o QA) (i : ∀ v H', QA v H' → QA' v H') : PostA g H mu τ W o QA' := by
  cases o with
  | ok d M => exact fun v H2 mu2 l2 p q => i _ _ (h v H2 mu2 l2 p q)
  | er c n M => exact h
  | no => exact h
theorem PostO.bindA {o : Out D} {k : D → Sto → Out (List D)} (h : PostA g H mu τ W (o.bind k) QA) : PostO g H mu τ W o (Then g H mu fun d M' H' mu' => PostA g H' mu' τ W (k d M') QA) := by
  cases o with
  | ok d M => exact fun v H2 mu2 l2 p => ⟨mu2, d, M, l2, p.val.1, p.val.2, PostA.shift l2 h⟩
  | er c n M => exact h
  | no => exact h.elim
theorem PostA.bind {o : Out (List D)} {k : List D → Sto → Out D} (h : PostO g H mu τ W (o.bind k) Q) : PostA g H mu τ W o (fun vs H' => ∃ mu' ds M', Le H mu H' mu' ∧ StoOk g H' mu' mu' M' ∧ RepDL g H' mu' ds vs ∧ PostO g H' mu' τ W (k ds M') Q) := by
  cases o with
  | ok ds M => exact fun vs H2 mu2 l2 s r => ⟨mu2, ds, M, l2, s, r, PostO.shift l2 h⟩
  | er c n M => exact h
  | no => exact h.elim
theorem PostA.bindA {o : Out (List D)} {k : List D → Sto → Out (List D)} (h : PostA g H mu τ W (o.bind k) QA) : PostA g H mu τ W o (fun vs H' => ∃ mu' ds M', Le H mu H' mu' ∧ StoOk g H' mu' mu' M' ∧ RepDL g H' mu' ds vs ∧ PostA g H' mu' τ W (k ds M') QA) := by
  cases o with
  | ok ds M => exact fun vs H2 mu2 l2 s r => ⟨mu2, ds, M, l2, s, r, PostA.shift l2 h⟩
  | er c n M => exact h
  | no => exact h.elim
end
section
variable {X : Cx} {e : Expr} {es : List Expr} {f : EvD} {r : EvA}
theorem pav_nil : PAv X [] aNil := fun W tk => PA.imp pa_nil fun τ H Q ⟨σ, M, mu, s, st, h⟩ => h [] H mu (Le.refl _ _) st rfl
theorem pav_cons (ha : PEv X e f) (hr : PAv X es r) (hs : starEach (e :: es) X.env = (false, eval e X.env) :: starEach es X.env) : PAv X (e :: es) (aCons f r) := fun W tk =>
  PA.imp (pa_cons (ha W tk) (hr W tk) hs) fun τ H Q ⟨σ, M, mu, s, st, h⟩ => by
    refine ⟨σ, M, mu, s, st, (PostO.bindA h).mono fun v H1 ⟨mu1, d, M1, l1, st1, r1, h1⟩ => ?_⟩
    refine ⟨σ, M1, mu1, s.mono l1, st1, (PostA.bindA h1).mono fun vs H2 ⟨mu2, ds, M2, l2, st2, r2, h2⟩ => ?_⟩
    exact h2 (v :: vs) H2 mu2 (Le.refl _ _) st2 ⟨v, vs, rfl, r1.mono l2, r2⟩
end

/-! ### constants, names -/
def eC (p : P) : EvD := fun _ M => .ok (.p p) M
def eVar (i : Nat) : EvD := fun σ M => match σ[i]? with
  | some (some d) => .ok d M
  | _ => .no
section
variable {X : Cx} {pos : Pos}
theorem tE_c {g : Mg} {W : WX} {τ : L2.St} {H : Hp} {Q : VK} {p : P} {v : V} (h : tE g W (eC p) τ H Q) (r : ∀ mu, Rep g H mu p v) : Q v H := by
  obtain ⟨σ, M, mu, s, st, h⟩ := h
  exact h v H mu (Le.refl _ _) ⟨st, r mu⟩
theorem pv_int {i j} : PEv X (.Constant (.int i) j pos) (eC (.int i)) := fun W tk => PE.imp pe_int fun τ H Q h => tE_c h fun _ => by unfold Rep; rfl
theorem pv_bl {i j} : PEv X (.Constant (.bool i) j pos) (eC (.bl i)) := fun W tk => PE.imp pe_bl fun τ H Q h => tE_c h fun _ => by unfold Rep; rfl
theorem pv_non {j} : PEv X (.Constant .none j pos) (eC .non) := fun W tk => PE.imp pe_non fun τ H Q h => tE_c h fun _ => by unfold Rep; rfl
theorem pv_str {i j} : PEv X (.Constant (.str i) j pos) (eC (.str i)) := fun W tk => PE.imp pe_str fun τ H Q h => tE_c h fun _ => by unfold Rep; rfl
theorem pv_var {i : Nat} {x : Str} (hN : X.N[i]? = some x) (hv : Vis X.env.scope x) (hd : (x == ("__debug__" : Str)) = false) (hcd : (x == ("__classdict__" : Str)) = false) : PEv X (.Name x pos) (eVar i) := fun W tk =>
  PE.imp (pe_var hN hv hd hcd) fun τ H Q ⟨σ, M, mu, s, st, h⟩ => by
    unfold eVar at h
    split at h
    · rename_i d hs
      obtain ⟨v, hv, r⟩ := s.at_ i d hs
      refine ⟨v, hv, h v H mu (Le.refl _ _) ?_⟩
      cases d with
      | nw ps => exact r.elim
      | p _ => exact ⟨st, r⟩
      | loc _ => exact ⟨st, r⟩
    · exact h.elim
theorem pv_glob {x : Str} {p : P} {v : V} {u : Value} (hg : Gl X x) (hm : X.mg x = some u) (r : RelV v u) (hr : ∀ H mu, Rep X.g H mu p v) (hd : (x == ("__debug__" : Str)) = false) : PEv X (.Name x pos) (eC p) := fun W tk =>
  PE.imp (pe_glob hg hm r hd) fun τ H Q h => tE_c h fun mu => hr H mu
end

/-! ### operators -/
/-- an operation on values, told of data -/
def Op2 (X : Cx) (f : Value → Value → Sem Value) (o : P → P → Option D) : Prop :=
  OpR X f fun x y H Q => ∃ mu M p q d, StoOk X.g H mu mu M ∧ RdP X.g H mu p x ∧ RdP X.g H mu q y ∧ o p q = some d ∧ ∀ v H', Le H mu H' mu → Post X.g H H' mu M d v → Q v H'
theorem OpR.imp {X : Cx} {f : Value → Value → Sem Value} {r r' : R2} (h : OpR X f r) (i : ∀ x y H Q, r' x y H Q → r x y H Q) : OpR X f r' := fun pins s σ H x y v u Q I rx ry q => h pins s σ H x y v u Q I rx ry (i x y H Q q)
def op2 (o : P → P → Option D) (d1 d2 : D) (M : Sto) : Out D := match d1.get M, d2.get M with
  | some p, some q => (match o p q with
    | some d => .ok d M
    | none => .no)
  | _, _ => .no
def eBin (o : P → P → Option D) (fa fb : EvD) : EvD := fun σ M => (fa σ M).bind fun d1 M1 => (fb σ M1).bind fun d2 M2 => op2 o d1 d2 M2
/-- two operands are evaluated -/
theorem tE_two {g : Mg} {W : WX} {τ : L2.St} {H : Hp} {Q : VK} {o : P → P → Option D} {fa fb : EvD} (h : tE g W (eBin o fa fb) τ H Q) :
    tE g W fa τ H fun x H1 => tE g W fb τ H1 fun y H2 => ∃ mu M p q d, StoOk g H2 mu mu M ∧ RdP g H2 mu p x ∧ RdP g H2 mu q y ∧ o p q = some d ∧ ∀ v H', Le H2 mu H' mu → Post g H2 H' mu M d v → Q v H' := by
  obtain ⟨σ, M, mu, s, st, h⟩ := h
  refine ⟨σ, M, mu, s, st, (PostO.bind h).mono fun x H1 ⟨mu1, d1, M1, l1, st1, r1, h1⟩ => ?_⟩
  refine ⟨σ, M1, mu1, s.mono l1, st1, (PostO.bind h1).mono fun y H2 ⟨mu2, d2, M2, l2, st2, r2, h2⟩ => ?_⟩
  dsimp only [op2] at h2
  split at h2
  · rename_i p q e1 e2
    split at h2
    · rename_i d e3
      refine ⟨mu2, M2, p, q, d, st2, (r1.mono l2).get st2 (by rw [get_val]; exact e1), r2.get st2 (by rw [get_val]; exact e2), e3, fun v H' l p => h2 v H' mu2 l p⟩
    · exact h2.elim
  · exact h2.elim
section
variable {X : Cx} {a b : Expr} {fa fb : EvD} {o : P → P → Option D} {pos : Pos}
theorem pv_bin {op : Operator} (ho : Op2 X (binaryOp op) o) (ha : PEv X a fa) (hb : PEv X b fb) : PEv X (.BinOp a op b pos) (eBin o fa fb) := fun W tk =>
  PE.imp (pe_op ho (ha W tk) (hb W tk)) fun τ H Q h => tE_two h
theorem pv_cmp {op : CmpOp} (ho : Op2 X (compareOp op) o) (ha : PEv X a fa) (hb : PEv X b fb) (hm : behindInMarks op b = false) : PEv X (.Compare a [op] [b] pos) (eBin o fa fb) := fun W tk =>
  PE.imp (pe_cmpR ho (ha W tk) (hb W tk) hm) fun τ H Q h => tE_two h
end
end Ev

set_option Elab.async false
set_option linter.all false
set_option maxRecDepth 100000
set_option maxHeartbeats 4000000
/-! Core3: the operators, tests. -/
namespace Ev
open PySem PySem.Spec PyProof.Rows L2

def lim : Nat := 1000000
theorem lim_le {n : Nat} (h : n ≤ lim) : n ≤ sizeLine := Nat.le_trans h (by decide)
theorem lim_lt {n : Nat} (h : n < lim) : n < sizeLine := Nat.lt_of_lt_of_le h (by decide)

section
variable {g : Mg} {H : Hp} {e : List Addr} {v : V}
theorem rd_int {i : Int} (h : RdP g H e (.int i) v) : v = .int i := by
  rcases h with h | ⟨_, _, _, q, _⟩
  · unfold Rep at h; exact h
  · cases q
theorem rd_bl {i : Bool} (h : RdP g H e (.bl i) v) : v = .bl i := by
  rcases h with h | ⟨_, _, _, q, _⟩
  · unfold Rep at h; exact h
  · cases q
theorem rd_non (h : RdP g H e .non v) : v = .non := by
  rcases h with h | ⟨_, _, _, q, _⟩
  · unfold Rep at h; exact h
  · cases q
theorem rd_str {i : Str} (h : RdP g H e (.str i) v) : v = .str i := by
  rcases h with h | ⟨_, _, _, q, _⟩
  · unfold Rep at h; exact h
  · cases q
theorem rd_lst {ps : List P} (h : RdP g H e (.lst ps) v) : ∃ a vs, v = .ref a ∧ H a = some (.lst vs) ∧ RepL g H e ps vs := by
  rcases h with h | ⟨_, a, vs, q, h1, h2, h3⟩
  · unfold Rep at h
    obtain ⟨a, vs, h1, _, h2, h3⟩ := h
    exact ⟨a, vs, h1, h2, h3⟩
  · cases q
    exact ⟨a, vs, h1, h2, h3⟩
theorem rd_tup {ps : List P} (h : RdP g H e (.tup ps) v) : ∃ a vs, v = .ref a ∧ a ∉ e ∧ H a = some (.tup vs) ∧ RepL g H e ps vs := by
  rcases h with h | ⟨_, a, vs, q, h1, h2, h3⟩
  · unfold Rep at h; exact h
  · cases q
theorem rd_rep {p : P} (h : RdP g H e p v) (n : ∀ ps, p ≠ .lst ps) : Rep g H e p v := by
  rcases h with h | ⟨ps, a, vs, q, h1, h2, h3⟩
  · exact h
  · exact absurd q (n ps)
/-- a new list -/
theorem post_nw {mu : List Addr} {M : Sto} {p : Addr} {ps : List P} {vs : List V} (st : StoOk g H mu mu M) (hp : H p = none) (r : RepL g H mu ps vs) : Post g H (upd H p (.lst vs)) mu M (.nw ps) (.ref p) :=
  ⟨p, vs, rfl, hp, st.fresh hp, upd_same, r.mono (Le.updx hp), st.updx hp⟩
theorem post_tup {mu : List Addr} {M : Sto} {p : Addr} {ps : List P} {vs : List V} (st : StoOk g H mu mu M) (hp : H p = none) (r : RepL g H mu ps vs) : Post g H (upd H p (.tup vs)) mu M (.p (.tup ps)) (.ref p) := by
  refine ⟨st.upd hp, ?_⟩
  show Rep _ _ _ _ _
  unfold Rep
  exact ⟨p, vs, rfl, st.fresh hp, upd_same, r.mono (Le.upd hp)⟩
theorem rep_bl {b : Bool} : Rep g H e (.bl b) (.bl b) := by unfold Rep; rfl
theorem post_bl {H₀ : Hp} {mu : List Addr} {M : Sto} {b : Bool} (st : StoOk g H mu mu M) : Post g H₀ H mu M (.p (.bl b)) (.bl b) := ⟨st, by show Rep _ _ _ _ _; unfold Rep; rfl⟩
theorem post_int {H₀ : Hp} {mu : List Addr} {M : Sto} {b : Int} (st : StoOk g H mu mu M) : Post g H₀ H mu M (.p (.int b)) (.int b) := ⟨st, by show Rep _ _ _ _ _; unfold Rep; rfl⟩
theorem post_str {H₀ : Hp} {mu : List Addr} {M : Sto} {b : Str} (st : StoOk g H mu mu M) : Post g H₀ H mu M (.p (.str b)) (.str b) := ⟨st, by show Rep _ _ _ _ _; unfold Rep; rfl⟩
theorem post_p {H₀ : Hp} {mu : List Addr} {M : Sto} {p : P} {v : V} (st : StoOk g H mu mu M) (r : Rep g H mu p v) : Post g H₀ H mu M (.p p) v := ⟨st, r⟩
end

/-! ### + -/
def oAdd : P → P → Option D
  | .int i, .int j => some (.p (.int (i + j)))
  | .str a, .str b => if a.length + b.length ≤ lim then some (.p (.str (a ++ b))) else none
  | .lst a, .lst b => if a.length + b.length ≤ lim then some (.nw (a ++ b)) else none
  | .tup a, .tup b => if a.length + b.length ≤ lim then some (.p (.tup (a ++ b))) else none
  | _, _ => none
section
variable {X : Cx}
theorem op2_int {f : Value → Value → Sem Value} {C : Int → Int → Prop} {k : Int → Int → V} {o : P → P → Option D} (h : OpR X f (rI C k))
    (i : ∀ p q d, o p q = some d → ∃ i j r, p = .int i ∧ q = .int j ∧ d = .p r ∧ C i j ∧ ∀ H mu, Rep X.g H mu r (k i j)) : Op2 X f o :=
  OpR.imp h fun x y H Q ⟨mu, M, p, q, d, st, rx, ry, e, hq⟩ => by
    obtain ⟨i, j, r, rfl, rfl, rfl, c, hr⟩ := i p q d e
    exact ⟨i, j, rd_int rx, rd_int ry, c, hq _ H (Le.refl _ _) ⟨st, hr H mu⟩⟩
theorem op2_int0 {f : Value → Value → Sem Value} {k : Int → Int → V} {o : P → P → Option D} (h : OpR X f (rI0 k))
    (i : ∀ p q d, o p q = some d → ∃ i j r, p = .int i ∧ q = .int j ∧ d = .p r ∧ ∀ H mu, Rep X.g H mu r (k i j)) : Op2 X f o :=
  OpR.imp h fun x y H Q ⟨mu, M, p, q, d, st, rx, ry, e, hq⟩ => by
    obtain ⟨i, j, r, rfl, rfl, rfl, hr⟩ := i p q d e
    exact ⟨i, j, rd_int rx, rd_int ry, hq _ H (Le.refl _ _) ⟨st, hr H mu⟩⟩
theorem o_add : Op2 X (binaryOp .Add) oAdd := by
  refine OpR.imp ((op_add.or op_add_str).or ((op_cat (X := X)).or op_catA)) fun x y H Q h => ?_
  obtain ⟨mu, M, p, q, d, st, rx, ry, e, hq⟩ := h
  unfold oAdd at e
  split at e
  · cases e
    exact .inl (.inl ⟨_, _, rd_int rx, rd_int ry, hq _ H (Le.refl _ _) ⟨st, by show Rep _ _ _ _ _; unfold Rep; rfl⟩⟩)
  · split at e
    · rename_i hl
      cases e
      exact .inl (.inr ⟨_, _, rd_str rx, rd_str ry, lim_le hl, hq _ H (Le.refl _ _) ⟨st, by show Rep _ _ _ _ _; unfold Rep; rfl⟩⟩)
    · cases e
  · split at e
    · rename_i hl
      cases e
      obtain ⟨a, vs, rfl, h1, h2⟩ := rd_lst rx
      obtain ⟨b, ws, rfl, k1, k2⟩ := rd_lst ry
      refine .inr (.inl ⟨a, b, vs, ws, rfl, rfl, h1, k1, ?_, fun p hp => hq _ _ (Le.upd hp) (post_nw st hp (h2.append k2))⟩)
      rw [h2.length, k2.length]
      exact lim_le hl
    · cases e
  · split at e
    · rename_i hl
      cases e
      obtain ⟨a, vs, rfl, ha, h1, h2⟩ := rd_tup rx
      obtain ⟨b, ws, rfl, hb, k1, k2⟩ := rd_tup ry
      refine .inr (.inr ⟨a, b, vs, ws, rfl, rfl, .of h1, .of k1, ?_, fun z => ?_, fun _ z => ?_, fun _ _ p hp => hq _ _ (Le.upd hp) (post_tup st hp (h2.append k2))⟩)
      · rw [h2.length, k2.length]
        exact lim_le hl
      · have z' := h2.length
        rw [z] at z'
        have z2 := List.eq_nil_of_length_eq_zero z'.symm
        subst z2
        refine hq _ H (Le.refl _ _) ⟨st, ?_⟩
        show Rep _ _ _ _ _
        unfold Rep
        exact ⟨b, ws, rfl, hb, k1, k2⟩
      · have z' := k2.length
        rw [z] at z'
        have z2 := List.eq_nil_of_length_eq_zero z'.symm
        subst z2
        refine hq _ H (Le.refl _ _) ⟨st, ?_⟩
        show Rep _ _ _ _ _
        unfold Rep
        rw [List.append_nil]
        exact ⟨a, vs, rfl, ha, h1, h2⟩
    · cases e
  · cases e

/-! ### ints -/
def oSub : P → P → Option D
  | .int i, .int j => some (.p (.int (i - j)))
  | _, _ => none
theorem o_sub : Op2 X (binaryOp .Sub) oSub := op2_int0 op_sub fun p q d e => by
  unfold oSub at e
  split at e
  · cases e; exact ⟨_, _, _, rfl, rfl, rfl, fun H mu => by unfold Rep; rfl⟩
  · cases e
/-- both factors together below a million bits, or one of them small -/
def mulOk (i j : Int) : Bool := (decide (-(2 ^ 64) < i) && decide (i < 2 ^ 64)) || ((decide (-(2 ^ 64) < j) && decide (j < 2 ^ 64)) || (decide (i.natAbs < 2 ^ 1000) && decide (j.natAbs < 2 ^ 1000)))
theorem mulOk_ok {i j : Int} (h : mulOk i j = true) : CMul i j ∨ CMulW i j := by
  unfold mulOk at h
  simp only [Bool.or_eq_true, Bool.and_eq_true, decide_eq_true_eq] at h
  rcases h with h | h | h
  · exact .inl (.inl h)
  · exact .inl (.inr h)
  · exact .inr (wide_mul h.1 h.2 (by decide) (by decide) (by decide))
theorem op_mul2 : OpR X (binaryOp .Mult) (rI (fun i j => mulOk i j = true) fun i j => .int (i * j)) :=
  OpR.imp (op_mul.or op_mulW) fun x y H Q h => by
    obtain ⟨i, j, rfl, rfl, c, q⟩ := h
    rcases mulOk_ok c with c | c
    · exact .inl ⟨i, j, rfl, rfl, c, q⟩
    · exact .inr ⟨i, j, rfl, rfl, c, q⟩
def oMul : P → P → Option D
  | .int i, .int j => if mulOk i j then some (.p (.int (i * j))) else none
  | .lst a, .int k => if a.length * k.toNat ≤ lim ∧ k ≤ lim ∧ -lim ≤ k then some (.nw (List.replicate k.toNat a).flatten) else none
  | _, _ => none
theorem repl_repL {g : Mg} {H : Hp} {e : List Addr} {ps : List P} {vs : List V} (h : RepL g H e ps vs) : ∀ n : Nat, RepL g H e (List.replicate n ps).flatten (List.replicate n vs).flatten
  | 0 => RepL.nil
  | n + 1 => by
    rw [List.replicate_succ, List.replicate_succ, List.flatten_cons, List.flatten_cons]
    exact h.append (repl_repL h n)
theorem o_mul : Op2 X (binaryOp .Mult) oMul := by
  refine OpR.imp (op_mul2.or (op_rep (X := X))) fun x y H Q h => ?_
  obtain ⟨mu, M, p, q, d, st, rx, ry, e, hq⟩ := h
  unfold oMul at e
  split at e
  · split at e
    · rename_i hc
      cases e
      exact .inl ⟨_, _, rd_int rx, rd_int ry, hc, hq _ H (Le.refl _ _) ⟨st, by show Rep _ _ _ _ _; unfold Rep; rfl⟩⟩
    · cases e
  · split at e
    · rename_i hl
      cases e
      obtain ⟨a, vs, rfl, h1, h2⟩ := rd_lst rx
      obtain ⟨l1, l2, l3⟩ := hl
      have e64 : lim = 1000000 := rfl
      refine .inr ⟨a, _, vs, rfl, rd_int ry, h1, by omega, by omega, ?_, fun p hp => hq _ _ (Le.upd hp) (post_nw st hp (repl_repL h2 _))⟩
      rw [h2.length]
      exact lim_le l1
    · cases e
  · cases e
def oFdiv : P → P → Option D
  | .int i, .int j => if 0 < j ∧ j.natAbs < 2 ^ 1000 then some (.p (.int (i / j))) else none
  | _, _ => none
theorem o_fdiv : Op2 X (binaryOp .FloorDiv) oFdiv := op2_int op_fdivW fun p q d e => by
  unfold oFdiv at e
  split at e
  · split at e
    · rename_i h
      cases e; exact ⟨_, _, _, rfl, rfl, rfl, wide_div h.1 h.2 (by decide) (by decide), fun H mu => by unfold Rep; rfl⟩
    · cases e
  · cases e
def oMod : P → P → Option D
  | .int i, .int j => if 0 < j then some (.p (.int (i % j))) else none
  | _, _ => none
theorem o_mod : Op2 X (binaryOp .Mod) oMod := op2_int op_mod fun p q d e => by
  unfold oMod at e
  split at e
  · split at e
    · rename_i h
      cases e; exact ⟨_, _, _, rfl, rfl, rfl, h, fun H mu => by unfold Rep; rfl⟩
    · cases e
  · cases e
def oPow : P → P → Option D
  | .int i, .int j => if 0 ≤ j ∧ j ≤ 1000 ∧ i.natAbs < 2 ^ 64 then some (.p (.int (i ^ j.toNat))) else none
  | _, _ => none
theorem o_pow : Op2 X (binaryOp .Pow) oPow := op2_int op_pow fun p q d e => by
  unfold oPow at e
  split at e
  · split at e
    · rename_i h
      cases e; exact ⟨_, _, _, rfl, rfl, rfl, ⟨h.1, by omega, h.2.2⟩, fun H mu => by unfold Rep; rfl⟩
    · cases e
  · cases e
def oLt : P → P → Option D
  | .int i, .int j => some (.p (.bl (decide (i < j))))
  | _, _ => none
def oLe : P → P → Option D
  | .int i, .int j => some (.p (.bl (decide (i ≤ j))))
  | _, _ => none
def oGt : P → P → Option D
  | .int i, .int j => some (.p (.bl (decide (j < i))))
  | _, _ => none
def oGe : P → P → Option D
  | .int i, .int j => some (.p (.bl (decide (j ≤ i))))
  | _, _ => none
theorem o_lt : Op2 X (compareOp .Lt) oLt := op2_int0 op_lt fun p q d e => by
  unfold oLt at e
  split at e
  · cases e; exact ⟨_, _, _, rfl, rfl, rfl, fun H mu => by unfold Rep; rfl⟩
  · cases e
theorem o_le : Op2 X (compareOp .LtE) oLe := op2_int0 op_le fun p q d e => by
  unfold oLe at e
  split at e
  · cases e; exact ⟨_, _, _, rfl, rfl, rfl, fun H mu => by unfold Rep; rfl⟩
  · cases e
theorem o_gt : Op2 X (compareOp .Gt) oGt := op2_int0 op_gt fun p q d e => by
  unfold oGt at e
  split at e
  · cases e; exact ⟨_, _, _, rfl, rfl, rfl, fun H mu => by unfold Rep; rfl⟩
  · cases e
theorem o_ge : Op2 X (compareOp .GtE) oGe := op2_int0 op_ge fun p q d e => by
  unfold oGe at e
  split at e
  · cases e; exact ⟨_, _, _, rfl, rfl, rfl, fun H mu => by unfold Rep; rfl⟩
  · cases e

/-! ### is None, ==, in -/
def P.isN : P → Bool
  | .non => true
  | _ => false
def oIsN (p : P) : P → Option D
  | .non => some (.p (.bl p.isN))
  | _ => none
def oNotN (p : P) : P → Option D
  | .non => some (.p (.bl !p.isN))
  | _ => none
theorem rd_nn {g : Mg} {H : Hp} {e : List Addr} {p : P} {v : V} (h : RdP g H e p v) : decide (v = .non) = p.isN := by
  cases p with
  | non => rw [rd_non h]; rfl
  | bl _ => rw [rd_bl h]; rfl
  | int _ => rw [rd_int h]; rfl
  | str _ => rw [rd_str h]; rfl
  | tup _ => obtain ⟨a, vs, rfl, _⟩ := rd_tup h; rfl
  | lst _ => obtain ⟨a, vs, rfl, _⟩ := rd_lst h; rfl
  | fn _ =>
    have h := rd_rep h fun _ z => nomatch z
    unfold Rep at h
    obtain ⟨a, rfl, _⟩ := h; rfl
  | scr _ =>
    have h := rd_rep h fun _ z => nomatch z
    unfold Rep at h
    obtain ⟨a, rfl, _⟩ := h; rfl
theorem o_isN : Op2 X (compareOp .Is) oIsN := OpR.imp op_isN fun x y H Q ⟨mu, M, p, q, d, st, rx, ry, e, hq⟩ => by
  have hx := rd_nn rx
  unfold oIsN at e
  split at e
  · cases e
    exact ⟨rd_non ry, by rw [hx]; exact hq _ H (Le.refl _ _) (post_bl st)⟩
  · cases e
theorem o_notN : Op2 X (compareOp .IsNot) oNotN := OpR.imp op_notN fun x y H Q ⟨mu, M, p, q, d, st, rx, ry, e, hq⟩ => by
  have hx := rd_nn rx
  unfold oNotN at e
  split at e
  · cases e
    exact ⟨rd_non ry, by rw [hx]; exact hq _ H (Le.refl _ _) (post_bl st)⟩
  · cases e
mutual
def toPy : P → Option PyData
  | .non => some .none
  | .bl b => some (.bool b)
  | .int i => some (.int i)
  | .str s => some (.str s)
  | .tup ps => (toPyL ps).map .tuple
  | .lst ps => (toPyL ps).map .list
  | .fn _ => none
  | .scr _ => none
def toPyL : List P → Option (List PyData)
  | [] => some []
  | p :: ps => match toPy p, toPyL ps with
    | some d, some ds => some (d :: ds)
    | _, _ => none
end
mutual
theorem rep_dp {K : PySem.W.Frag} {g : Mg} {H : Hp} {e : List Addr} : ∀ {p : P} {v : V} {d : PyData}, Rep g H e p v → toPy p = some d → Dp K H v d
  | .non, v, d, h, k => by unfold Rep at h; unfold toPy at k; cases k; rw [h]; exact .non
  | .bl _, v, d, h, k => by unfold Rep at h; unfold toPy at k; cases k; rw [h]; exact .bl _
  | .int _, v, d, h, k => by unfold Rep at h; unfold toPy at k; cases k; rw [h]; exact .int _
  | .str _, v, d, h, k => by unfold Rep at h; unfold toPy at k; cases k; rw [h]; exact .str _
  | .tup ps, v, d, h, k => by
    unfold Rep at h; unfold toPy at k
    obtain ⟨a, vs, rfl, _, h1, h2⟩ := h
    cases hq : toPyL ps with
    | none => rw [hq] at k; cases k
    | some ds =>
      rw [hq] at k
      cases k
      exact .tup (.of h1) (rep_dpL h2 hq)
  | .lst ps, v, d, h, k => by
    unfold Rep at h; unfold toPy at k
    obtain ⟨a, vs, rfl, _, h1, h2⟩ := h
    cases hq : toPyL ps with
    | none => rw [hq] at k; cases k
    | some ds =>
      rw [hq] at k
      cases k
      exact .lst (.of h1) (rep_dpL h2 hq)
  | .fn _, v, d, h, k => by unfold toPy at k; cases k
  | .scr _, v, d, h, k => by unfold toPy at k; cases k
theorem rep_dpL {K : PySem.W.Frag} {g : Mg} {H : Hp} {e : List Addr} : ∀ {ps : List P} {vs : List V} {ds : List PyData}, RepL g H e ps vs → toPyL ps = some ds → DpAll K H vs ds
  | [], vs, ds, h, k => by unfold toPyL at k; cases k; rw [h.nil_inv]; exact .nil
  | p :: ps, vs, ds, h, k => by
    obtain ⟨v, r, rfl, h1, h2⟩ := h.cons_inv
    unfold toPyL at k
    split at k
    · rename_i d ds' e1 e2
      cases k
      exact .cons (rep_dp h1 e1) (rep_dpL h2 e2)
    · cases k
end
theorem rd_dp {K : PySem.W.Frag} {g : Mg} {H : Hp} {e : List Addr} {p : P} {v : V} {d : PyData} (h : RdP g H e p v) (k : toPy p = some d) : Dp K H v d := by
  rcases h with h | ⟨ps, a, vs, rfl, rfl, h1, h2⟩
  · exact rep_dp h k
  · unfold toPy at k
    cases hq : toPyL ps with
    | none => rw [hq] at k; cases k
    | some ds =>
      rw [hq] at k
      cases k
      exact .lst (.of h1) (rep_dpL h2 hq)
/-- ==, where both are data of the fragment: flat ones at once -/
def eqB : P → P → Option Bool
  | .int i, .int j => some (decide (i = j))
  | .str i, .str j => some (decide (i = j))
  | p, q => match toPy p, toPy q with
    | some d, some e => if SeqAt.shaped d && SeqAt.shaped e then some (PyData.eqv d e) else none
    | _, _ => none
def oEq (p q : P) : Option D := (eqB p q).map fun b => .p (.bl b)
def oNe (p q : P) : Option D := (eqB p q).map fun b => .p (.bl !b)
theorem dec_eq_int {i j : Int} : decide (V.int i = V.int j) = decide (i = j) := by simp
theorem dec_eq_str {i j : Str} : decide (V.str i = V.str j) = decide (i = j) := by simp
theorem o_eq (hu : X.A.units + 64 < cLine) : Op2 X (compareOp .Eq) oEq := OpR.imp (op_eq.or (op_eqD hu)) fun x y H Q ⟨mu, M, p, q, d, st, rx, ry, e, hq⟩ => by
  unfold oEq at e
  cases hb : eqB p q with
  | none => rw [hb] at e; cases e
  | some b =>
    rw [hb] at e
    cases e
    have fin := hq (.bl b) H (Le.refl _ _) (post_bl st)
    unfold eqB at hb
    split at hb
    · cases hb
      rw [rd_int rx, rd_int ry]
      exact .inl ⟨rfl, by rw [dec_eq_int]; exact fin⟩
    · cases hb
      rw [rd_str rx, rd_str ry]
      exact .inl ⟨rfl, by rw [dec_eq_str]; exact fin⟩
    · split at hb
      · rename_i d1 d2 e1 e2
        split at hb
        · rename_i hs
          cases hb
          rw [Bool.and_eq_true] at hs
          exact .inr ⟨_, _, rd_dp rx e1, rd_dp ry e2, hs.1, hs.2, fin⟩
        · cases hb
      · cases hb
theorem o_ne (hu : X.A.units + 64 < cLine) : Op2 X (compareOp .NotEq) oNe := OpR.imp (op_ne.or (op_neD hu)) fun x y H Q ⟨mu, M, p, q, d, st, rx, ry, e, hq⟩ => by
  unfold oNe at e
  cases hb : eqB p q with
  | none => rw [hb] at e; cases e
  | some b =>
    rw [hb] at e
    cases e
    have fin := hq (.bl !b) H (Le.refl _ _) (post_bl st)
    unfold eqB at hb
    split at hb
    · cases hb
      rw [rd_int rx, rd_int ry]
      exact .inl ⟨rfl, by rw [dec_eq_int]; exact fin⟩
    · cases hb
      rw [rd_str rx, rd_str ry]
      exact .inl ⟨rfl, by rw [dec_eq_str]; exact fin⟩
    · split at hb
      · rename_i d1 d2 e1 e2
        split at hb
        · rename_i hs
          cases hb
          rw [Bool.and_eq_true] at hs
          exact .inr ⟨_, _, rd_dp rx e1, rd_dp ry e2, hs.1, hs.2, fin⟩
        · cases hb
      · cases hb
/-- flat data -/
def flatP : P → Option V
  | .non => some .non
  | .bl b => some (.bl b)
  | .int i => some (.int i)
  | .str s => some (.str s)
  | _ => none
def flatL : List P → Option (List V)
  | [] => some []
  | p :: ps => match flatP p, flatL ps with
    | some v, some vs => some (v :: vs)
    | _, _ => none
theorem flat_rep {g : Mg} {H : Hp} {e : List Addr} {p : P} {v w : V} (h : Rep g H e p v) (k : flatP p = some w) : v = w ∧ flatV w = true := by
  cases p <;> simp only [flatP, Option.some.injEq, reduceCtorEq] at k <;> (unfold Rep at h; subst k; subst h; exact ⟨rfl, rfl⟩)
theorem flat_repL {g : Mg} {H : Hp} {e : List Addr} : ∀ {ps : List P} {vs ws : List V}, RepL g H e ps vs → flatL ps = some ws → vs = ws ∧ ws.all flatV = true
  | [], vs, ws, h, k => by unfold flatL at k; cases k; exact ⟨h.nil_inv, rfl⟩
  | p :: ps, vs, ws, h, k => by
    obtain ⟨v, r, rfl, h1, h2⟩ := h.cons_inv
    unfold flatL at k
    split at k
    · rename_i w ws' e1 e2
      cases k
      obtain ⟨a1, a2⟩ := flat_rep h1 e1
      obtain ⟨b1, b2⟩ := flat_repL h2 e2
      exact ⟨by rw [a1, b1], by rw [List.all_cons, a2, b2]; rfl⟩
    · cases k
/-- is it in? -/
def inB : P → P → Option Bool
  | .str a, .str b => match a.cps.toList with
    | [c] => some (decide (c ∈ b.cps.toList))
    | _ => none
  | p, .lst qs => match flatP p, flatL qs with
    | some v, some vs => some (inV v vs)
    | _, _ => none
  | p, .tup qs => match flatP p, flatL qs with
    | some v, some vs => some (inV v vs)
    | _, _ => none
  | _, _ => none
def oIn (p q : P) : Option D := (inB p q).map fun b => .p (.bl b)
def oNotIn (p q : P) : Option D := (inB p q).map fun b => .p (.bl !b)
theorem one_sign {a : Str} {c : Nat} (h : a.cps.toList = [c]) : a = ⟨#[c]⟩ := by
  cases a with
  | mk cps => rw [Str.mk.injEq]; exact Array.toList_inj.mp h
theorem in_cases {g : Mg} {H : Hp} {e : List Addr} {p q : P} {x y : V} {b : Bool} (rx : RdP g H e p x) (ry : RdP g H e q y) (hb : inB p q = some b) :
    (∃ (c : Nat) (z : Str), x = .str ⟨#[c]⟩ ∧ y = .str z ∧ b = decide (c ∈ z.cps.toList)) ∨ (∃ a xs, y = .ref a ∧ (H a = some (.lst xs) ∨ H a = some (.tup xs)) ∧ flatV x = true ∧ xs.all flatV = true ∧ b = inV x xs) := by
  unfold inB at hb
  split at hb
  · split at hb
    · rename_i c hc
      cases hb
      exact .inl ⟨c, _, by rw [rd_str rx, one_sign hc], rd_str ry, rfl⟩
    · cases hb
  · split at hb
    · rename_i v vs e1 e2
      cases hb
      obtain ⟨a, xs, rfl, h1, h2⟩ := rd_lst ry
      have rx' := rd_rep rx fun ps z => by subst z; cases e1
      obtain ⟨rfl, fx⟩ := flat_rep rx' e1
      obtain ⟨rfl, fl⟩ := flat_repL h2 e2
      exact .inr ⟨a, _, rfl, .inl h1, fx, fl, rfl⟩
    · cases hb
  · split at hb
    · rename_i v vs e1 e2
      cases hb
      obtain ⟨a, xs, rfl, _, h1, h2⟩ := rd_tup ry
      have rx' := rd_rep rx fun ps z => by subst z; cases e1
      obtain ⟨rfl, fx⟩ := flat_rep rx' e1
      obtain ⟨rfl, fl⟩ := flat_repL h2 e2
      exact .inr ⟨a, _, rfl, .inr h1, fx, fl, rfl⟩
    · cases hb
  · cases hb
theorem o_in : Op2 X (compareOp .In) oIn := OpR.imp (op_in_sign.or op_in_seq) fun x y H Q ⟨mu, M, p, q, d, st, rx, ry, e, hq⟩ => by
  unfold oIn at e
  cases hb : inB p q with
  | none => rw [hb] at e; cases e
  | some b =>
    rw [hb] at e
    cases e
    have fin := hq (.bl b) H (Le.refl _ _) (post_bl st)
    rcases in_cases rx ry hb with ⟨c, z, rfl, rfl, rfl⟩ | ⟨a, xs, rfl, h, fx, fl, rfl⟩
    · exact .inl ⟨c, z, rfl, rfl, fin⟩
    · refine .inr ⟨a, xs, rfl, ?_, fx, fl, fin⟩
      rcases h with h | h
      · exact .inl (.of h)
      · exact .inr (.of h)
theorem o_notIn : Op2 X (compareOp .NotIn) oNotIn := OpR.imp (op_notIn_sign.or op_notIn_seq) fun x y H Q ⟨mu, M, p, q, d, st, rx, ry, e, hq⟩ => by
  unfold oNotIn at e
  cases hb : inB p q with
  | none => rw [hb] at e; cases e
  | some b =>
    rw [hb] at e
    cases e
    have fin := hq (.bl !b) H (Le.refl _ _) (post_bl st)
    rcases in_cases rx ry hb with ⟨c, z, rfl, rfl, rfl⟩ | ⟨a, xs, rfl, h, fx, fl, rfl⟩
    · exact .inl ⟨c, z, rfl, rfl, fin⟩
    · refine .inr ⟨a, xs, rfl, ?_, fx, fl, fin⟩
      rcases h with h | h
      · exact .inl (.of h)
      · exact .inr (.of h)
end
end Ev

set_option Elab.async false
set_option linter.all false
set_option maxRecDepth 100000
set_option maxHeartbeats 4000000
/-! Core4: tests, and/or/not, displays, subscripts, slices. -/
namespace Ev
open PySem PySem.Spec PyProof.Rows L2

/-! ### tests -/
abbrev EvB := Fr → Sto → Out Bool
def PostB (g : Mg) (H : Hp) (mu : List Addr) (τ : L2.St) (W : WX) (o : Out Bool) (Q : Bool → Hp → Prop) : Prop :=
  match o with
  | .ok b M' => ∀ H' mu', Le H mu H' mu' → StoOk g H' mu' mu' M' → Q b H'
  | .er c n M' => ∀ cls dd H' mu', Le H mu H' mu' → StoOk g H' mu' mu' M' → ExcR g c n cls dd H' → W cls dd τ H'
  | .no => False
def tTr (g : Mg) (W : WX) (f : EvB) : TT := fun τ H Q => ∃ σ M mu, SlOk g H mu σ τ ∧ StoOk g H mu mu M ∧ PostB g H mu τ W (f σ M) Q
def PTv (X : Cx) (e : Expr) (f : EvB) : Prop := ∀ W, L2N.Takes X W → PT X e (tTr X.g W f)
def PWv (X : Cx) (e : Expr) (f : EvB) : Prop := ∀ W, L2N.Takes X W → PW X e (tTr X.g W f)
theorem PT.imp {X : Cx} {e : Expr} {t t' : TT} (h : PT X e t) (i : ∀ τ H Q, t' τ H Q → t τ H Q) : PT X e t' := ⟨fun pins s σ H Q I q => h.run pins s σ H Q I (i σ H Q q)⟩
theorem PW.imp {X : Cx} {e : Expr} {t t' : TT} (h : PW X e t) (i : ∀ τ H Q, t' τ H Q → t τ H Q) : PW X e t' := ⟨fun wh pins s σ H Q I q => h.run wh pins s σ H Q I (i σ H Q q)⟩
/-- truth of data -/
def P.tru : P → Option Bool
  | .non => some false
  | .bl b => some b
  | .int i => some (decide (i ≠ 0))
  | .str s => if s.length ≤ lim then some (decide (s.length ≠ 0)) else none
  | .tup ps => some (!ps.isEmpty)
  | .lst ps => some (!ps.isEmpty)
  | _ => none
/-- the truth of an expression that gives a bool; of any -/
def bOf (f : EvD) : EvB := fun σ M => (f σ M).bind fun d M1 => match d with
  | .p (.bl b) => .ok b M1
  | _ => .no
def bTru (f : EvD) : EvB := fun σ M => (f σ M).bind fun d M1 => match d.get M1 with
  | some p => (match p.tru with
    | some b => .ok b M1
    | none => .no)
  | none => .no
def bNot (f : EvB) : EvB := fun σ M => (f σ M).bind fun b M1 => .ok (!b) M1
def bAnd (f k : EvB) : EvB := fun σ M => (f σ M).bind fun b M1 => if b = true then k σ M1 else .ok false M1
def bOr (f k : EvB) : EvB := fun σ M => (f σ M).bind fun b M1 => if b = true then .ok true M1 else k σ M1
section
variable {g : Mg} {H H' : Hp} {mu mu' : List Addr} {τ : L2.St} {W : WX} {Q Q' : VK} {QB QB' : Bool → Hp → Prop}
theorem PostB.shift {o : Out Bool} (l : Le H mu H' mu') (h : PostB g H mu τ W o QB) : PostB g H' mu' τ W o QB := by
  cases o with
  | ok d M => exact fun H2 mu2 l2 p => h H2 mu2 (l.trans l2) p
  | er c n M => exact fun cls dd H2 mu2 l2 s x => h cls dd H2 mu2 (l.trans l2) s x
  | no => exact h
theorem PostB.mono {o : Out Bool} (h : PostB g H mu τ W o QB) (i : ∀ v H', QB v H' → QB' v H') : PostB g H mu τ W o QB' := by
  cases o with
  | ok d M => exact fun H2 mu2 l2 p => i _ _ (h H2 mu2 l2 p)
  | er c n M => exact h
  | no => exact h
theorem PostO.bindB {o : Out D} {k : D → Sto → Out Bool} (h : PostB g H mu τ W (o.bind k) QB) : PostO g H mu τ W o (Then g H mu fun d M' H' mu' => PostB g H' mu' τ W (k d M') QB) := by
  cases o with
  | ok d M => exact fun v H2 mu2 l2 p => ⟨mu2, d, M, l2, p.val.1, p.val.2, PostB.shift l2 h⟩
  | er c n M => exact h
  | no => exact h.elim
theorem PostB.bindB {o : Out Bool} {k : Bool → Sto → Out Bool} (h : PostB g H mu τ W (o.bind k) QB) : PostB g H mu τ W o (fun b H' => ∃ mu' M', Le H mu H' mu' ∧ StoOk g H' mu' mu' M' ∧ PostB g H' mu' τ W (k b M') QB) := by
  cases o with
  | ok d M => exact fun H2 mu2 l2 p => ⟨mu2, M, l2, p, PostB.shift l2 h⟩
  | er c n M => exact h
  | no => exact h.elim
theorem PostB.bind {o : Out Bool} {k : Bool → Sto → Out D} (h : PostO g H mu τ W (o.bind k) Q) : PostB g H mu τ W o (fun b H' => ∃ mu' M', Le H mu H' mu' ∧ StoOk g H' mu' mu' M' ∧ PostO g H' mu' τ W (k b M') Q) := by
  cases o with
  | ok d M => exact fun H2 mu2 l2 p => ⟨mu2, M, l2, p, PostO.shift l2 h⟩
  | er c n M => exact h
  | no => exact h.elim
/-- an operand that stays what it is through what comes behind -/
theorem Post.now {H₀ : Hp} {M : Sto} {d : D} {v : V} (st : StoOk g H mu mu M) (r : RepD g H mu d v) : Post g H₀ H mu M d v := by
  cases d with
  | nw ps => exact r.elim
  | p _ => exact ⟨st, r⟩
  | loc _ => exact ⟨st, r⟩
theorem tru_of {K : PySem.W.Frag} {ex : List Addr} {p : P} {v : V} {b : Bool} (h : RdP g H ex p v) (k : p.tru = some b) : TruV K v H b := by
  cases p with
  | non => rw [rd_non h]; cases k; rfl
  | bl _ => rw [rd_bl h]; cases k; rfl
  | int i =>
    rw [rd_int h]; cases k
    show _ = (i != 0)
    simp [bne, BEq.beq]
  | str s =>
    rw [rd_str h]
    have k : (if s.length ≤ lim then some (decide (s.length ≠ 0)) else none) = some b := k
    split at k
    · rename_i hl
      cases k
      refine ⟨lim_le hl, ?_⟩
      by_cases z : s.length = 0
      · simp [z]
      · have z2 : (s.length : Int) ≠ 0 := by omega
        simp [z, z2]
    · cases k
  | tup ps =>
    obtain ⟨a, vs, rfl, _, h1, h2⟩ := rd_tup h
    cases k
    refine .inr (.inl ⟨vs, .of h1, ?_⟩)
    have := h2.length
    cases ps <;> cases vs <;> simp at this ⊢
  | lst ps =>
    obtain ⟨a, vs, rfl, h1, h2⟩ := rd_lst h
    cases k
    refine .inl ⟨vs, .of h1, ?_⟩
    have := h2.length
    cases ps <;> cases vs <;> simp at this ⊢
  | fn _ => cases k
  | scr _ => cases k
theorem tB_of {f : EvD} {τ : L2.St} {H : Hp} (h : tTr g W (bOf f) τ H QB) : tE g W f τ H fun x H' => ∃ k, x = .bl k ∧ QB k H' := by
  obtain ⟨σ, M, mu, s, st, h⟩ := h
  refine ⟨σ, M, mu, s, st, (PostO.bindB h).mono fun v H1 ⟨mu1, d, M1, l1, st1, r1, h1⟩ => ?_⟩
  try dsimp only at h1
  split at h1
  · rename_i bb
    have e : v = .bl bb := by have r1 : Rep _ _ _ _ _ := r1; unfold Rep at r1; exact r1
    exact ⟨bb, e, h1 H1 mu1 (Le.refl _ _) st1⟩
  · exact h1.elim
theorem tTru_of {K : PySem.W.Frag} {f : EvD} {τ : L2.St} {H : Hp} (h : tTr g W (bTru f) τ H QB) : tE g W f τ H fun x H' => ∃ k, TruV K x H' k ∧ QB k H' := by
  obtain ⟨σ, M, mu, s, st, h⟩ := h
  refine ⟨σ, M, mu, s, st, (PostO.bindB h).mono fun v H1 ⟨mu1, d, M1, l1, st1, r1, h1⟩ => ?_⟩
  try dsimp only at h1
  split at h1
  · rename_i p hp
    split at h1
    · rename_i b hb
      exact ⟨b, tru_of (r1.get st1 (by rw [get_val]; exact hp)) hb, h1 H1 mu1 (Le.refl _ _) st1⟩
    · exact h1.elim
  · exact h1.elim
end
section
variable {X : Cx} {a b c : Expr} {f fa fb : EvD} {k k2 : EvB} {o : P → P → Option D} {pos : Pos} {rest : List Expr}
theorem ptv_cmp {op : CmpOp} (ho : Op2 X (compareOp op) o) (ha : PEv X a fa) (hb : PEv X b fb) (hm : behindInMarks op b = false) : PTv X (.Compare a [op] [b] pos) (bOf (eBin o fa fb)) := fun W tk =>
  PT.imp (pt_cmpR ho (ha W tk) (hb W tk) hm) fun τ H Q h => tE_two (tB_of h)
theorem ptv_tru (ha : PEv X a f) (he : ∀ whole, isTrue a X.env whole = (do let v ← whole; standAt a.pos; holding [v] (truthy v))) : PTv X a (bTru f) := fun W tk =>
  PT.imp (pt_truth (ha W tk) he) fun τ H Q h => tTru_of h
theorem ptv_not (ha : PTv X a k) : PTv X (.UnaryOp .Not a pos) (bNot k) := fun W tk => PT.imp (pt_not (ha W tk)) fun τ H Q ⟨σ, M, mu, s, st, h⟩ =>
  ⟨σ, M, mu, s, st, (PostB.bindB h).mono fun b H1 ⟨mu1, M1, l1, st1, h1⟩ => h1 H1 mu1 (Le.refl _ _) st1⟩
theorem pwv_and1 (ha : PTv X a k) : PWv X (.BoolOp .And [a] pos) k := fun W tk => pw_and1 (ha W tk)
theorem pwv_or1 (ha : PTv X a k) : PWv X (.BoolOp .Or [a] pos) k := fun W tk => pw_or1 (ha W tk)
theorem pwv_and (ha : PTv X a k) (hb : PWv X (.BoolOp .And (b :: rest) pos) k2) : PWv X (.BoolOp .And (a :: b :: rest) pos) (bAnd k k2) := fun W tk =>
  PW.imp (pw_and (ha W tk) (hb W tk)) fun τ H Q ⟨σ, M, mu, s, st, h⟩ => by
    refine ⟨σ, M, mu, s, st, (PostB.bindB h).mono fun b H1 ⟨mu1, M1, l1, st1, h1⟩ => ?_⟩
    cases b with
    | true => exact ⟨σ, M1, mu1, s.mono l1, st1, h1⟩
    | false => exact h1 H1 mu1 (Le.refl _ _) st1
theorem pwv_or (ha : PTv X a k) (hb : PWv X (.BoolOp .Or (b :: rest) pos) k2) : PWv X (.BoolOp .Or (a :: b :: rest) pos) (bOr k k2) := fun W tk =>
  PW.imp (pw_or (ha W tk) (hb W tk)) fun τ H Q ⟨σ, M, mu, s, st, h⟩ => by
    refine ⟨σ, M, mu, s, st, (PostB.bindB h).mono fun b H1 ⟨mu1, M1, l1, st1, h1⟩ => ?_⟩
    cases b with
    | true => exact h1 H1 mu1 (Le.refl _ _) st1
    | false => exact ⟨σ, M1, mu1, s.mono l1, st1, h1⟩
theorem ptv_of_w (h : PWv X a k) : PTv X a k := fun W tk => (h W tk).pt
/-! as values -/
def eAnd (fa fb : EvD) : EvD := fun σ M => (fa σ M).bind fun d M1 => match d.get M1 with
  | some p => (match p.tru with
    | some true => fb σ M1
    | some false => .ok d.val M1
    | none => .no)
  | none => .no
def eOr (fa fb : EvD) : EvD := fun σ M => (fa σ M).bind fun d M1 => match d.get M1 with
  | some p => (match p.tru with
    | some true => .ok d.val M1
    | some false => fb σ M1
    | none => .no)
  | none => .no
def eNot (fa : EvD) : EvD := fun σ M => (bTru fa σ M).bind fun b M1 => .ok (.p (.bl (!b))) M1
def eIf (c : EvB) (fa fb : EvD) : EvD := fun σ M => (c σ M).bind fun b M1 => if b = true then fa σ M1 else fb σ M1
theorem pv_one {op : BoolOp} (h : PEv X a f) : PEv X (.BoolOp op [a] pos) f := fun W tk => pe_one (h W tk)
theorem pv_and (ha : PEv X a fa) (hb : PEv X (.BoolOp .And (b :: rest) pos) fb) : PEv X (.BoolOp .And (a :: b :: rest) pos) (eAnd fa fb) := fun W tk =>
  PE.imp (pe_andT (ha W tk) (hb W tk)) fun τ H Q ⟨σ, M, mu, s, st, h⟩ => by
    refine ⟨σ, M, mu, s, st, (PostO.bind h).mono fun v H1 ⟨mu1, d, M1, l1, st1, r1, h1⟩ => ?_⟩
    try dsimp only at h1
    split at h1
    · rename_i p hp
      have hr := r1.get st1 (by rw [get_val]; exact hp)
      split at h1
      · rename_i hb; exact ⟨true, tru_of hr hb, iteT ⟨σ, M1, mu1, s.mono l1, st1, h1⟩⟩
      · rename_i hb; exact ⟨false, tru_of hr hb, iteF (h1 v H1 mu1 (Le.refl _ _) (Post.now st1 r1))⟩
      · exact h1.elim
    · exact h1.elim
theorem pv_or (ha : PEv X a fa) (hb : PEv X (.BoolOp .Or (b :: rest) pos) fb) : PEv X (.BoolOp .Or (a :: b :: rest) pos) (eOr fa fb) := fun W tk =>
  PE.imp (pe_orT (ha W tk) (hb W tk)) fun τ H Q ⟨σ, M, mu, s, st, h⟩ => by
    refine ⟨σ, M, mu, s, st, (PostO.bind h).mono fun v H1 ⟨mu1, d, M1, l1, st1, r1, h1⟩ => ?_⟩
    try dsimp only at h1
    split at h1
    · rename_i p hp
      have hr := r1.get st1 (by rw [get_val]; exact hp)
      split at h1
      · rename_i hb; exact ⟨true, tru_of hr hb, iteT (h1 v H1 mu1 (Le.refl _ _) (Post.now st1 r1))⟩
      · rename_i hb; exact ⟨false, tru_of hr hb, iteF ⟨σ, M1, mu1, s.mono l1, st1, h1⟩⟩
      · exact h1.elim
    · exact h1.elim
theorem pv_not (ha : PEv X a f) : PEv X (.UnaryOp .Not a pos) (eNot f) := fun W tk => PE.imp (pe_notT (ha W tk)) fun τ H Q ⟨σ, M, mu, s, st, h⟩ =>
  tTru_of ⟨σ, M, mu, s, st, (PostB.bind h).mono fun b H1 ⟨mu1, M1, l1, st1, h1⟩ => h1 _ H1 mu1 (Le.refl _ _) (post_bl st1)⟩
theorem pv_ifExp (hc : PTv X c k) (ha : PEv X a fa) (hb : PEv X b fb) : PEv X (.IfExp c a b pos) (eIf k fa fb) := fun W tk =>
  PE.imp (pe_ifExp (hc W tk) (ha W tk) (hb W tk)) fun τ H Q ⟨σ, M, mu, s, st, h⟩ => by
    refine ⟨σ, M, mu, s, st, (PostB.bind h).mono fun b H1 ⟨mu1, M1, l1, st1, h1⟩ => ?_⟩
    cases b with
    | true => exact iteT ⟨σ, M1, mu1, s.mono l1, st1, h1⟩
    | false => exact iteF ⟨σ, M1, mu1, s.mono l1, st1, h1⟩
/-- a op b op' c -/
def eChain (o o' : P → P → Option D) (fa fb fc : EvD) : EvD := fun σ M => (fa σ M).bind fun d1 M1 => (fb σ M1).bind fun d2 M2 => (op2 o d1 d2 M2).bind fun d M3 => match d with
  | .p (.bl true) => (fc σ M3).bind fun d3 M4 => op2 o' d2.val d3 M4
  | .p (.bl false) => .ok (.p (.bl false)) M3
  | _ => .no
theorem op2_inv {g : Mg} {H : Hp} {mu : List Addr} {τ : L2.St} {W : WX} {Q : VK} {o : P → P → Option D} {d1 d2 : D} {M : Sto} (h : PostO g H mu τ W (op2 o d1 d2 M) Q) : ∃ p q d, d1.get M = some p ∧ d2.get M = some q ∧ o p q = some d ∧ op2 o d1 d2 M = .ok d M := by
  unfold op2 at h ⊢
  split at h
  · rename_i p q e1 e2
    split at h
    · rename_i d e3
      exact ⟨p, q, d, e1, e2, e3, rfl⟩
    · exact h.elim
  · exact h.elim
theorem chain_of {g : Mg} {W : WX} {τ : L2.St} {H : Hp} {Q : VK} {o o' : P → P → Option D} {fa fb fc : EvD} {r r' : R2}
    (i : ∀ x y H Q, (∃ mu M p q d, StoOk g H mu mu M ∧ RdP g H mu p x ∧ RdP g H mu q y ∧ o p q = some d ∧ ∀ v H', Le H mu H' mu → Post g H H' mu M d v → Q v H') → r x y H Q)
    (i' : ∀ x y H Q, (∃ mu M p q d, StoOk g H mu mu M ∧ RdP g H mu p x ∧ RdP g H mu q y ∧ o' p q = some d ∧ ∀ v H', Le H mu H' mu → Post g H H' mu M d v → Q v H') → r' x y H Q)
    (h : tE g W (eChain o o' fa fb fc) τ H Q) : tChain r r' (tE g W fa) (tE g W fb) (tE g W fc) τ H Q := by
  obtain ⟨σ, M, mu, s, st, h⟩ := h
  refine ⟨σ, M, mu, s, st, (PostO.bind h).mono fun x H1 ⟨mu1, d1, M1, l1, st1, r1, h1⟩ => ?_⟩
  refine ⟨σ, M1, mu1, s.mono l1, st1, (PostO.bind h1).mono fun y H2 ⟨mu2, d2, M2, l2, st2, r2, h2⟩ => ?_⟩
  try dsimp only at h2
  obtain ⟨p, q, d, e1, e2, e3, e4⟩ := op2_inv (PostO.bind h2)
  rw [e4] at h2
  have g1 := (r1.mono l2).get st2 (by rw [get_val]; exact e1)
  have g2 := r2.get st2 (by rw [get_val]; exact e2)
  refine i x y H2 _ ⟨mu2, M2, p, q, d, st2, g1, g2, e3, fun v H3 l3 p3 => ?_⟩
  have p3v := p3.val
  dsimp only [Out.bind] at h2
  split at h2
  · have ev : v = .bl true := by have z : Rep _ _ _ _ _ := p3v.2; unfold Rep at z; exact z
    refine ⟨true, ev, iteT ?_⟩
    have h2 := PostO.shift l3 h2
    refine ⟨σ, M2, mu2, s.mono (l1.trans (l2.trans l3)), p3v.1, (PostO.bind h2).mono fun w H4 ⟨mu4, d3, M4, l4, st4, r4, h4⟩ => ?_⟩
    try dsimp only at h4
    obtain ⟨p', q', d', f1, f2, f3, f4⟩ := op2_inv h4
    rw [f4] at h4
    refine i' y w H4 _ ⟨mu4, M4, p', q', d', st4, (r2.mono (l3.trans l4)).get st4 f1, r4.get st4 (by rw [get_val]; exact f2), f3, fun v' H5 l5 p5 => ?_⟩
    exact h4 v' H5 mu4 l5 p5
  · have ev : v = .bl false := by have z : Rep _ _ _ _ _ := p3v.2; unfold Rep at z; exact z
    exact ⟨false, ev, iteF (h2 _ H3 mu2 l3 (post_bl p3v.1))⟩
  · exact h2.elim
theorem pv_chain {op op' : CmpOp} {o' : P → P → Option D} {fc : EvD} (ho : Op2 X (compareOp op) o) (ho' : Op2 X (compareOp op') o') (ha : PEv X a fa) (hb : PEv X b fb) (hc : PEv X c fc) (hm : lastMarks [op, op'] [b, c] = false) :
    PEv X (.Compare a [op, op'] [b, c] pos) (eChain o o' fa fb fc) := fun W tk =>
  PE.imp (pe_chain ho ho' (ha W tk) (hb W tk) (hc W tk) hm) fun τ H Q h => chain_of (fun _ _ _ _ z => z) (fun _ _ _ _ z => z) h
theorem ptv_chain {op op' : CmpOp} {o' : P → P → Option D} {fc : EvD} (ho : Op2 X (compareOp op) o) (ho' : Op2 X (compareOp op') o') (ha : PEv X a fa) (hb : PEv X b fb) (hc : PEv X c fc) (hm : lastMarks [op, op'] [b, c] = false) :
    PTv X (.Compare a [op, op'] [b, c] pos) (bOf (eChain o o' fa fb fc)) := fun W tk =>
  PT.imp (pt_chain ho ho' (ha W tk) (hb W tk) (hc W tk) hm) fun τ H Q h => chain_of (fun _ _ _ _ z => z) (fun _ _ _ _ z => z) (tB_of h)

/-! ### unary -/
def eNeg (fa : EvD) : EvD := fun σ M => (fa σ M).bind fun d M1 => match d with
  | .p (.int i) => .ok (.p (.int (-i))) M1
  | _ => .no
theorem rep_int_inv {g : Mg} {H : Hp} {mu : List Addr} {i : Int} {v : V} (r : RepD g H mu (D.val (.p (.int i))) v) : v = .int i := by
  have z : Rep _ _ _ _ _ := r
  unfold Rep at z; exact z
theorem pv_neg (ha : PEv X a fa) : PEv X (.UnaryOp .USub a pos) (eNeg fa) := fun W tk => PE.imp (pe_un un_neg (ha W tk)) fun τ H Q ⟨σ, M, mu, s, st, h⟩ => by
  refine ⟨σ, M, mu, s, st, (PostO.bind h).mono fun v H1 ⟨mu1, d, M1, l1, st1, r1, h1⟩ => ?_⟩
  try dsimp only at h1
  split at h1
  · exact ⟨_, rep_int_inv r1, h1 _ H1 mu1 (Le.refl _ _) (post_int st1)⟩
  · exact h1.elim

/-! ### displays -/
/-- data of all -/
def allP : List D → Option (List P)
  | [] => some []
  | .p p :: ds => (allP ds).map fun ps => p :: ps
  | _ :: _ => none
theorem allP_rep {g : Mg} {H : Hp} {mu : List Addr} : ∀ {ds : List D} {ps : List P} {vs : List V}, allP ds = some ps → RepDL g H mu ds vs → RepL g H mu ps vs
  | [], _, _, e, h => by cases e; rw [show _ = [] from h]; exact RepL.nil
  | .p p :: ds, _, _, e, ⟨v, r, e1, h1, h2⟩ => by
    unfold allP at e
    cases q : allP ds with
    | none => rw [q] at e; cases e
    | some qs =>
      rw [q] at e
      cases e
      rw [e1]
      exact RepL.cons h1 (allP_rep q h2)
  | .nw _ :: _, _, _, e, _ => by cases e
  | .loc _ :: _, _, _, e, _ => by cases e
def eTup (fs : EvA) : EvD := fun σ M => (fs σ M).bind fun ds M1 => match allP ds with
  | some ps => if ps.length ≤ lim then .ok (.p (.tup ps)) M1 else .no
  | none => .no
def eLst (fs : EvA) : EvD := fun σ M => (fs σ M).bind fun ds M1 => match allP ds with
  | some ps => if ps.length ≤ lim then .ok (.nw ps) M1 else .no
  | none => .no
theorem pv_tup {es : List Expr} {fs : EvA} {k : Nat} (h : PAv X es fs) : PEv X (.Tuple es k pos) (eTup fs) := fun W tk => PE.imp (pe_tup (h W tk)) fun τ H Q ⟨σ, M, mu, s, st, h⟩ => by
  refine ⟨σ, M, mu, s, st, (PostA.bind h).mono fun vs H1 ⟨mu1, ds, M1, l1, st1, r1, h1⟩ => ?_⟩
  try dsimp only at h1
  split at h1
  · rename_i ps hp
    have r := allP_rep hp r1
    split at h1
    · rename_i hl
      exact ⟨by rw [r.length]; exact lim_le hl, fun p hp => h1 _ _ mu1 (Le.upd hp) (post_tup st1 hp r)⟩
    · exact h1.elim
  · exact h1.elim
theorem pv_lst {es : List Expr} {fs : EvA} (h : PAv X es fs) : PEv X (.List es pos) (eLst fs) := fun W tk => PE.imp (pe_lst (h W tk)) fun τ H Q ⟨σ, M, mu, s, st, h⟩ => by
  refine ⟨σ, M, mu, s, st, (PostA.bind h).mono fun vs H1 ⟨mu1, ds, M1, l1, st1, r1, h1⟩ => ?_⟩
  try dsimp only at h1
  split at h1
  · rename_i ps hp
    have r := allP_rep hp r1
    split at h1
    · rename_i hl
      exact ⟨by rw [r.length]; exact lim_le hl, fun p hp => h1 _ _ mu1 (Le.upd hp) (post_nw st1 hp r)⟩
    · exact h1.elim
  · exact h1.elim

/-! ### subscripts -/
def oIx : P → P → Option D
  | .lst ps, .int i => (atI ps i).map .p
  | .tup ps, .int i => (atI ps i).map .p
  | .scr ns, .int i => (atI ns i).map fun n => .p (.int n)
  | .str s, .int i => if s.length ≤ lim then (atI s.cps.toList i).map fun c => .p (.str ⟨#[c]⟩) else none
  | _, _ => none
theorem RepL.atI {g : Mg} {H : Hp} {e : List Addr} {ps : List P} {vs : List V} {i : Int} {p : P} (h : RepL g H e ps vs) (k : L2.atI ps i = some p) : ∃ v, L2.atI vs i = some v ∧ Rep g H e p v := by
  unfold L2.atI at k ⊢
  rw [h.length]
  cases q : ixN ps.length i with
  | none => rw [q] at k; cases k
  | some j =>
    rw [q] at k
    exact h.get (show ps[j]? = some p from k)
theorem scr_inv {g : Mg} {H : Hp} {e : List Addr} {ns : List Int} {v : V} (h : RdP g H e (.scr ns) v) : ∃ a, v = .ref a ∧ SqL g.K H a (ns.map V.int) := by
  have h := rd_rep h fun _ z => nomatch z
  unfold Rep at h
  obtain ⟨a, e, ⟨_, h⟩ | h⟩ := h
  · exact ⟨a, e, .inl (.inr h)⟩
  · exact ⟨a, e, .inr h⟩
theorem atI_map {α β : Type} (f : α → β) {xs : List α} {i : Int} {x : α} (h : L2.atI xs i = some x) : L2.atI (xs.map f) i = some (f x) := by
  unfold L2.atI at h ⊢
  rw [List.length_map]
  cases q : ixN xs.length i with
  | none => rw [q] at h; cases h
  | some j =>
    rw [q] at h
    show (xs.map f)[j]? = _
    rw [List.getElem?_map, show xs[j]? = some x from h]; rfl
theorem pv_ix (ha : PEv X a fa) (hb : PEv X b fb) (hs : PlainIx b) : PEv X (.Subscript a b pos) (eBin oIx fa fb) := fun W tk => PE.imp (pe_ix ix_seq (ha W tk) (hb W tk) hs) fun τ H Q h => by
  obtain ⟨σ, M, mu, s, st, h⟩ := tE_two h
  refine ⟨σ, M, mu, s, st, h.mono fun x H1 ⟨σ2, M2, mu2, s2, st2, h2⟩ => ⟨σ2, M2, mu2, s2, st2, h2.mono fun y H2 ⟨mu3, M3, p, q, d, st3, rx, ry, e, hq⟩ => ?_⟩⟩
  unfold oIx at e
  split at e
  · rename_i ps i
    obtain ⟨a, vs, rfl, h1, h2⟩ := rd_lst rx
    cases k : L2.atI ps i with
    | none => rw [k] at e; cases e
    | some p =>
      rw [k] at e; cases e
      obtain ⟨v, e1, e2⟩ := h2.atI k
      exact .inl ⟨a, vs, i, v, rfl, rd_int ry, .of h1, e1, hq v H2 (Le.refl _ _) ⟨st3, e2⟩⟩
  · rename_i ps i
    obtain ⟨a, vs, rfl, _, h1, h2⟩ := rd_tup rx
    cases k : L2.atI ps i with
    | none => rw [k] at e; cases e
    | some p =>
      rw [k] at e; cases e
      obtain ⟨v, e1, e2⟩ := h2.atI k
      exact .inr (.inl ⟨a, vs, i, v, rfl, rd_int ry, .of h1, e1, hq v H2 (Le.refl _ _) ⟨st3, e2⟩⟩)
  · rename_i ns i
    obtain ⟨a, rfl, h1⟩ := scr_inv rx
    cases k : L2.atI ns i with
    | none => rw [k] at e; cases e
    | some p =>
      rw [k] at e; cases e
      exact .inl ⟨a, ns.map V.int, i, .int p, rfl, rd_int ry, h1, atI_map V.int k, hq _ H2 (Le.refl _ _) (post_int st3)⟩
  · rename_i z i
    split at e
    · rename_i hl
      cases k : L2.atI z.cps.toList i with
      | none => rw [k] at e; cases e
      | some c =>
        rw [k] at e; cases e
        exact .inr (.inr ⟨z, i, c, rd_str rx, rd_int ry, lim_le hl, k, hq _ H2 (Le.refl _ _) (post_str st3)⟩)
    · cases e
  · cases e

/-! ### slices -/
abbrev EvO := Fr → Sto → Out (Option Int)
def PostOp (g : Mg) (H : Hp) (mu : List Addr) (τ : L2.St) (W : WX) (o : Out (Option Int)) (Q : Option Int → Hp → Prop) : Prop :=
  match o with
  | .ok b M' => ∀ H' mu', Le H mu H' mu' → StoOk g H' mu' mu' M' → Q b H'
  | .er c n M' => ∀ cls dd H' mu', Le H mu H' mu' → StoOk g H' mu' mu' M' → ExcR g c n cls dd H' → W cls dd τ H'
  | .no => False
def tOr (g : Mg) (W : WX) (f : EvO) : TO := fun τ H Q => ∃ σ M mu, SlOk g H mu σ τ ∧ StoOk g H mu mu M ∧ PostOp g H mu τ W (f σ M) Q
def POv (X : Cx) (e : Option Expr) (f : EvO) : Prop := ∀ W, L2N.Takes X W → PO X e (tOr X.g W f)
theorem PO.imp {X : Cx} {e : Option Expr} {t t' : TO} (h : PO X e t) (i : ∀ τ H Q, t' τ H Q → t τ H Q) : PO X e t' := ⟨fun pins s σ H Q I q => h.run pins s σ H Q I (i σ H Q q)⟩
def sNone : EvO := fun _ M => .ok none M
def sSome (f : EvD) : EvO := fun σ M => (f σ M).bind fun d M1 => match d with
  | .p (.int i) => .ok (some i) M1
  | _ => .no
theorem pov_none : POv X none sNone := fun W tk => PO.imp po_none fun τ H Q ⟨σ, M, mu, s, st, h⟩ => h H mu (Le.refl _ _) st
theorem pov_some (ha : PEv X a fa) : POv X (some a) (sSome fa) := fun W tk => PO.imp (po_some (ha W tk)) fun τ H Q ⟨σ, M, mu, s, st, h⟩ => by
  refine ⟨σ, M, mu, s, st, ?_⟩
  unfold sSome at h
  cases hf : fa σ M with
  | ok d M1 =>
    rw [hf] at h
    dsimp only [Out.bind] at h
    intro v H1 mu1 l1 p1
    split at h
    · exact ⟨_, rep_int_inv p1.val.2, h H1 mu1 l1 p1.val.1⟩
    · exact h.elim
  | er c n M1 => rw [hf] at h; exact h
  | no => rw [hf] at h; exact h.elim
/-- a slice of data -/
def cutP (ps : List P) (lo hi : Option Int) : List P := (ps.drop (HT.sIx ps.length 0 lo)).take (HT.sIx ps.length ps.length hi - HT.sIx ps.length 0 lo)
def oSl (lo hi : Option Int) : P → Option D
  | .lst ps => some (.nw (cutP ps lo hi))
  | .tup ps => some (.p (.tup (cutP ps lo hi)))
  | .str s => if s.length ≤ lim then some (.p (.str (cutS s lo hi))) else none
  | _ => none
def eSl (fa : EvD) (fl fh : EvO) : EvD := fun σ M => (fa σ M).bind fun d M1 => (fl σ M1).bind fun l M2 => (fh σ M2).bind fun h M3 => match d.get M3 with
  | some p => (match oSl l h p with
    | some r => .ok r M3
    | none => .no)
  | none => .no
theorem PostOp.bind {g : Mg} {H : Hp} {mu : List Addr} {τ : L2.St} {W : WX} {Q : VK} {o : Out (Option Int)} {k : Option Int → Sto → Out D} (h : PostO g H mu τ W (o.bind k) Q) : PostOp g H mu τ W o (fun b H' => ∃ mu' M', Le H mu H' mu' ∧ StoOk g H' mu' mu' M' ∧ PostO g H' mu' τ W (k b M') Q) := by
  cases o with
  | ok d M => exact fun H2 mu2 l2 p => ⟨mu2, M, l2, p, PostO.shift l2 h⟩
  | er c n M => exact h
  | no => exact h.elim
theorem PostOp.mono {g : Mg} {H : Hp} {mu : List Addr} {τ : L2.St} {W : WX} {QB QB' : Option Int → Hp → Prop} {o : Out (Option Int)} (h : PostOp g H mu τ W o QB) (i : ∀ v H', QB v H' → QB' v H') : PostOp g H mu τ W o QB' := by
  cases o with
  | ok d M => exact fun H2 mu2 l2 p => i _ _ (h H2 mu2 l2 p)
  | er c n M => exact h
  | no => exact h
theorem cut_rep {g : Mg} {H : Hp} {e : List Addr} {ps : List P} {vs : List V} (h : RepL g H e ps vs) (lo hi : Option Int) : RepL g H e (cutP ps lo hi) (cutV vs lo hi) := by
  unfold cutP cutV
  rw [h.length]
  exact (h.drop _).take _
theorem pv_slice {lo hi : Option Expr} {fl fh : EvO} {p2 : Pos} (ha : PEv X a fa) (hl : POv X lo fl) (hh : POv X hi fh) : PEv X (.Subscript a (.Slice lo hi none p2) pos) (eSl fa fl fh) := fun W tk =>
  PE.imp (pe_slice (sl_list.or (sl_tupA.or sl_str)) (ha W tk) (hl W tk) (hh W tk)) fun τ H Q ⟨σ, M, mu, s, st, h⟩ => by
    refine ⟨σ, M, mu, s, st, (PostO.bind h).mono fun x H1 ⟨mu1, d, M1, l1, st1, r1, h1⟩ => ?_⟩
    refine ⟨σ, M1, mu1, s.mono l1, st1, (PostOp.bind h1).mono fun l H2 ⟨mu2, M2, l2, st2, h2⟩ => ?_⟩
    refine ⟨σ, M2, mu2, s.mono (l1.trans l2), st2, (PostOp.bind h2).mono fun u H3 ⟨mu3, M3, l3, st3, h3⟩ => ?_⟩
    try dsimp only at h3
    split at h3
    · rename_i p hp
      have rd := (r1.mono (l2.trans l3)).get st3 (by rw [get_val]; exact hp)
      split at h3
      · rename_i r hr
        unfold oSl at hr
        split at hr
        · cases hr
          obtain ⟨a, vs, rfl, k1, k2⟩ := rd_lst rd
          exact .inl ⟨a, vs, rfl, .of k1, fun q hq => h3 _ _ mu3 (Le.upd hq) (post_nw st3 hq (cut_rep k2 l u))⟩
        · cases hr
          obtain ⟨a, vs, rfl, ka, k1, k2⟩ := rd_tup rd
          refine .inr (.inl ⟨a, vs, rfl, .of k1, fun hw => ?_, fun _ q hq => h3 _ _ mu3 (Le.upd hq) (post_tup st3 hq (cut_rep k2 l u))⟩)
          refine h3 _ H3 mu3 (Le.refl _ _) ⟨st3, ?_⟩
          rename_i _ ps _
          show Rep _ _ _ (.tup (cutP ps l u)) _
          have hl := k2.length
          have e : cutP ps l u = ps := by
            unfold cutP
            rw [← hl, hw.1, hw.2, List.drop_zero, Nat.sub_zero, hl, List.take_length]
          rw [e]
          unfold Rep
          exact ⟨a, vs, rfl, ka, k1, k2⟩
        · split at hr
          · rename_i hl
            cases hr
            exact .inr (.inr ⟨_, rd_str rd, lim_le hl, h3 _ H3 mu3 (Le.refl _ _) (post_str st3)⟩)
          · cases hr
        · cases hr
      · exact h3.elim
    · exact h3.elim
end
end Ev

set_option Elab.async false
set_option linter.all false
set_option maxRecDepth 100000
set_option maxHeartbeats 4000000
/-! Core5: calls of built-ins, of built-ins' methods, of the text's own defs. -/
namespace Ev
open PySem PySem.Spec PyProof.Rows L2

/-- data to be read -/
def getL (M : Sto) : List D → Option (List P)
  | [] => some []
  | d :: ds => match d.get M, getL M ds with
    | some p, some ps => some (p :: ps)
    | _, _ => none
def RdL (g : Mg) (H : Hp) (ex : List Addr) : List P → List V → Prop
  | [], vs => vs = []
  | p :: ps, vs => ∃ v r, vs = v :: r ∧ RdP g H ex p v ∧ RdL g H ex ps r
theorem getL_rd {g : Mg} {H : Hp} {mu : List Addr} {M : Sto} (st : StoOk g H mu mu M) : ∀ {ds : List D} {ps : List P} {vs : List V}, getL M ds = some ps → RepDL g H mu ds vs → RdL g H mu ps vs
  | [], _, _, e, h => by cases e; exact h
  | d :: ds, _, _, e, ⟨v, r, e1, h1, h2⟩ => by
    unfold getL at e
    split at e
    · rename_i p ps k1 k2
      cases e
      exact ⟨v, r, e1, h1.get st k1, getL_rd st k2 h2⟩
    · cases e
/-- a call by values, told of data -/
def CallO (X : Cx) (f : Value) (o : List P → Option D) : Prop :=
  CallR X f fun xs H Q => ∃ mu M ps d, StoOk X.g H mu mu M ∧ RdL X.g H mu ps xs ∧ o ps = some d ∧ ∀ v H', Le H mu H' mu → Post X.g H H' mu M d v → Q v H'
theorem CallR.imp {X : Cx} {f : Value} {r r' : List V → Hp → VK → Prop} (h : CallR X f r) (i : ∀ x H Q, r' x H Q → r x H Q) : CallR X f r' := fun pins s σ H x u Q I rx q => h pins s σ H x u Q I rx (i x H Q q)
def eCB (o : List P → Option D) (fs : EvA) : EvD := fun σ M => (fs σ M).bind fun ds M1 => match getL M1 ds with
  | some ps => (match o ps with
    | some d => .ok d M1
    | none => .no)
  | none => .no
theorem tCB_of {g : Mg} {W : WX} {τ : L2.St} {H : Hp} {Q : VK} {o : List P → Option D} {fs : EvA} (h : tE g W (eCB o fs) τ H Q) :
    tAr g W fs τ H fun vs H1 => ∃ mu M ps d, StoOk g H1 mu mu M ∧ RdL g H1 mu ps vs ∧ o ps = some d ∧ ∀ v H', Le H1 mu H' mu → Post g H1 H' mu M d v → Q v H' := by
  obtain ⟨σ, M, mu, s, st, h⟩ := h
  refine ⟨σ, M, mu, s, st, (PostA.bind h).mono fun vs H1 ⟨mu1, ds, M1, l1, st1, r1, h1⟩ => ?_⟩
  split at h1
  · rename_i ps hp
    split at h1
    · rename_i d hd
      exact ⟨mu1, M1, ps, d, st1, getL_rd st1 hp r1, hd, fun v H2 l2 p2 => h1 v H2 mu1 l2 p2⟩
    · exact h1.elim
  · exact h1.elim
section
variable {X : Cx} {x : Str} {e : Expr} {es : List Expr} {fs : EvA} {o : List P → Option D} {p pos : Pos}
theorem pv_callB {id : String} (hc : CallO X (.builtin id) o) (hg : Gl X x) (hm : X.mg x = none) (hv : bootBuiltins x = some (.builtin id)) (ha : PAv X (e :: es) fs) (hn : x ≠ "__name__") (hdb : (x == ("__debug__" : Str)) = false)
    (he : starEach (e :: es) X.env = (false, eval e X.env) :: starEach es X.env) (hpl : (backTo pos (starEach es X.env)).any (·.1) = false) : PEv X (.Call (.Name x p) (e :: es) [] pos) (eCB o fs) := fun W tk =>
  PE.imp (pe_callB hc hg hm hv (ha W tk) hn hdb he hpl) fun τ H Q h => tCB_of h
theorem pv_callTy {T : String} (hc : CallO X (.type T) o) (hg : Gl X x) (hm : X.mg x = none) (hv : bootBuiltins x = some (.type T)) (ha : PAv X (e :: es) fs) (hn : x ≠ "__name__") (hdb : (x == ("__debug__" : Str)) = false)
    (he : starEach (e :: es) X.env = (false, eval e X.env) :: starEach es X.env) (hpl : (backTo pos (starEach es X.env)).any (·.1) = false) : PEv X (.Call (.Name x p) (e :: es) [] pos) (eCB o fs) := fun W tk =>
  PE.imp (pe_callTy hc hg hm hv (ha W tk) hn hdb he hpl) fun τ H Q h => tCB_of h
end

/-! ### what the built-ins give -/
def cLen : List P → Option D
  | [.str s] => if s.length ≤ lim then some (.p (.int s.length)) else none
  | [.lst ps] => some (.p (.int ps.length))
  | [.tup ps] => some (.p (.int ps.length))
  | [.scr ns] => some (.p (.int ns.length))
  | _ => none
def cAbs : List P → Option D
  | [.int i] => some (.p (.int (if i < 0 then -i else i)))
  | _ => none
def cInt : List P → Option D
  | [.int i] => some (.p (.int i))
  | [.bl b] => some (.p (.int (if b then 1 else 0)))
  | [.str s] => if s.length ≤ 640 then (PySem.intText? s).map fun n => .p (.int n) else none
  | _ => none
def cStr : List P → Option D
  | [.int i] => if i.natAbs < 2 ^ 1000 then some (.p (.str (toString i))) else none
  | _ => none
def intsOf : List P → Option (List Int)
  | [] => some []
  | .int i :: ps => (intsOf ps).map fun r => i :: r
  | _ :: _ => none
def blsOf : List P → Option (List Bool)
  | [] => some []
  | .bl i :: ps => (blsOf ps).map fun r => i :: r
  | _ :: _ => none
def strsOf : List P → Option (List Str)
  | [] => some []
  | .str i :: ps => (strsOf ps).map fun r => i :: r
  | _ :: _ => none
def maxL : List Int → Int
  | [] => 0
  | [x] => x
  | x :: r => max x (maxL r)
def minL : List Int → Int
  | [] => 0
  | [x] => x
  | x :: r => min x (minL r)
def cMax : List P → Option D
  | [.int i, .int j] => some (.p (.int (if j > i then j else i)))
  | [.lst ps] => match intsOf ps with
    | some ns => if ns = [] then none else some (.p (.int (maxL ns)))
    | none => none
  | _ => none
def cMin : List P → Option D
  | [.int i, .int j] => some (.p (.int (if j < i then j else i)))
  | [.lst ps] => match intsOf ps with
    | some ns => if ns = [] then none else some (.p (.int (minL ns)))
    | none => none
  | _ => none
def cSum : List P → Option D
  | [.lst ps] => (intsOf ps).map fun ns => .p (.int ns.sum)
  | _ => none
def cAll : List P → Option D
  | [.lst ps] => (blsOf ps).map fun bs => .p (.bl (bs.all id))
  | _ => none
def cTuple : List P → Option D
  | [.lst ps] => some (.p (.tup ps))
  | [.tup ps] => some (.p (.tup ps))
  | _ => none
def cList : List P → Option D
  | [.lst ps] => some (.nw ps)
  | [.tup ps] => some (.nw ps)
  | _ => none
section
variable {g : Mg} {H : Hp} {e : List Addr}
theorem ints_rep : ∀ {ps : List P} {ns : List Int} {vs : List V}, intsOf ps = some ns → RepL g H e ps vs → vs = ns.map V.int
  | [], _, _, k, h => by cases k; exact h.nil_inv
  | .int i :: ps, _, _, k, h => by
    obtain ⟨v, r, rfl, h1, h2⟩ := h.cons_inv
    unfold intsOf at k
    cases q : intsOf ps with
    | none => rw [q] at k; cases k
    | some m =>
      rw [q] at k; cases k
      unfold Rep at h1
      rw [h1, ints_rep q h2]; rfl
  | .non :: _, _, _, k, _ => by cases k
  | .bl _ :: _, _, _, k, _ => by cases k
  | .str _ :: _, _, _, k, _ => by cases k
  | .tup _ :: _, _, _, k, _ => by cases k
  | .lst _ :: _, _, _, k, _ => by cases k
  | .fn _ :: _, _, _, k, _ => by cases k
  | .scr _ :: _, _, _, k, _ => by cases k
theorem bls_rep : ∀ {ps : List P} {ns : List Bool} {vs : List V}, blsOf ps = some ns → RepL g H e ps vs → vs = ns.map V.bl
  | [], _, _, k, h => by cases k; exact h.nil_inv
  | .bl i :: ps, _, _, k, h => by
    obtain ⟨v, r, rfl, h1, h2⟩ := h.cons_inv
    unfold blsOf at k
    cases q : blsOf ps with
    | none => rw [q] at k; cases k
    | some m =>
      rw [q] at k; cases k
      unfold Rep at h1
      rw [h1, bls_rep q h2]; rfl
  | .non :: _, _, _, k, _ => by cases k
  | .int _ :: _, _, _, k, _ => by cases k
  | .str _ :: _, _, _, k, _ => by cases k
  | .tup _ :: _, _, _, k, _ => by cases k
  | .lst _ :: _, _, _, k, _ => by cases k
  | .fn _ :: _, _, _, k, _ => by cases k
  | .scr _ :: _, _, _, k, _ => by cases k
theorem strs_rep : ∀ {ps : List P} {ns : List Str} {vs : List V}, strsOf ps = some ns → RepL g H e ps vs → vs = ns.map V.str
  | [], _, _, k, h => by cases k; exact h.nil_inv
  | .str i :: ps, _, _, k, h => by
    obtain ⟨v, r, rfl, h1, h2⟩ := h.cons_inv
    unfold strsOf at k
    cases q : strsOf ps with
    | none => rw [q] at k; cases k
    | some m =>
      rw [q] at k; cases k
      unfold Rep at h1
      rw [h1, strs_rep q h2]; rfl
  | .non :: _, _, _, k, _ => by cases k
  | .int _ :: _, _, _, k, _ => by cases k
  | .bl _ :: _, _, _, k, _ => by cases k
  | .tup _ :: _, _, _, k, _ => by cases k
  | .lst _ :: _, _, _, k, _ => by cases k
  | .fn _ :: _, _, _, k, _ => by cases k
  | .scr _ :: _, _, _, k, _ => by cases k
theorem rdl1 {p : P} {xs : List V} (h : RdL g H e [p] xs) : ∃ v, xs = [v] ∧ RdP g H e p v := by
  obtain ⟨v, r, rfl, h1, h2⟩ := h
  have h2 : r = [] := h2
  exact ⟨v, by rw [h2], h1⟩
theorem rdl2 {p q : P} {xs : List V} (h : RdL g H e [p, q] xs) : ∃ v w, xs = [v, w] ∧ RdP g H e p v ∧ RdP g H e q w := by
  obtain ⟨v, r, rfl, h1, h2⟩ := h
  obtain ⟨w, rfl, h3⟩ := rdl1 h2
  exact ⟨v, w, rfl, h1, h3⟩
theorem maxL_mem : ∀ {ns : List Int}, ns ≠ [] → maxL ns ∈ ns ∧ ∀ y ∈ ns, y ≤ maxL ns
  | [], h => absurd rfl h
  | [x], _ => ⟨by simp [maxL], fun y hy => by rw [List.mem_singleton.mp hy]; exact Int.le_refl _⟩
  | x :: y :: r, _ => by
    obtain ⟨h1, h2⟩ := maxL_mem (ns := y :: r) (by simp)
    have e1 : maxL (x :: y :: r) = max x (maxL (y :: r)) := rfl
    rw [e1]
    refine ⟨?_, fun z hz => ?_⟩
    · by_cases q : x ≤ maxL (y :: r)
      · rw [Int.max_eq_right q]; exact List.mem_cons_of_mem _ h1
      · rw [Int.max_eq_left (by omega)]; exact List.mem_cons_self
    · rcases List.mem_cons.mp hz with rfl | hz
      · exact Int.le_max_left _ _
      · exact Int.le_trans (h2 z hz) (Int.le_max_right _ _)
theorem minL_mem : ∀ {ns : List Int}, ns ≠ [] → minL ns ∈ ns ∧ ∀ y ∈ ns, minL ns ≤ y
  | [], h => absurd rfl h
  | [x], _ => ⟨by simp [minL], fun y hy => by rw [List.mem_singleton.mp hy]; exact Int.le_refl _⟩
  | x :: y :: r, _ => by
    obtain ⟨h1, h2⟩ := minL_mem (ns := y :: r) (by simp)
    have e1 : minL (x :: y :: r) = min x (minL (y :: r)) := rfl
    rw [e1]
    refine ⟨?_, fun z hz => ?_⟩
    · by_cases q : x ≤ minL (y :: r)
      · rw [Int.min_eq_left q]; exact List.mem_cons_self
      · rw [Int.min_eq_right (by omega)]; exact List.mem_cons_of_mem _ h1
    · rcases List.mem_cons.mp hz with rfl | hz
      · exact Int.min_le_left _ _
      · exact Int.le_trans (Int.min_le_right _ _) (h2 z hz)
end
section
variable {X : Cx}
theorem c_len : CallO X (.builtin "len") cLen := CallR.imp call_len fun xs H Q ⟨mu, M, ps, d, st, r, e, hq⟩ => by
  unfold cLen at e
  split at e
  · split at e
    · rename_i hl
      cases e
      obtain ⟨v, rfl, h⟩ := rdl1 r
      exact ⟨v, _, rfl, by rw [rd_str h]; exact ⟨lim_le hl, rfl⟩, hq _ H (Le.refl _ _) (post_int st)⟩
    · cases e
  · cases e
    obtain ⟨v, rfl, h⟩ := rdl1 r
    obtain ⟨a, vs, rfl, h1, h2⟩ := rd_lst h
    exact ⟨_, _, rfl, .inl ⟨vs, .of h1, h2.length.symm⟩, hq _ H (Le.refl _ _) (post_int st)⟩
  · cases e
    obtain ⟨v, rfl, h⟩ := rdl1 r
    obtain ⟨a, vs, rfl, _, h1, h2⟩ := rd_tup h
    exact ⟨_, _, rfl, .inr ⟨vs, .of h1, h2.length.symm⟩, hq _ H (Le.refl _ _) (post_int st)⟩
  · cases e
    obtain ⟨v, rfl, h⟩ := rdl1 r
    obtain ⟨a, rfl, h1⟩ := scr_inv h
    exact ⟨_, _, rfl, .inl ⟨_, h1, by rw [List.length_map]⟩, hq _ H (Le.refl _ _) (post_int st)⟩
  · cases e
theorem c_abs : CallO X (.builtin "abs") cAbs := CallR.imp call_abs fun xs H Q ⟨mu, M, ps, d, st, r, e, hq⟩ => by
  unfold cAbs at e
  split at e
  · cases e
    obtain ⟨v, rfl, h⟩ := rdl1 r
    exact ⟨_, by rw [rd_int h], hq _ H (Le.refl _ _) (post_int st)⟩
  · cases e
theorem c_int : CallO X (.type "int") cInt := CallR.imp (call_int1.or call_int_str) fun xs H Q ⟨mu, M, ps, d, st, r, e, hq⟩ => by
  unfold cInt at e
  split at e
  · cases e
    obtain ⟨v, rfl, h⟩ := rdl1 r
    exact .inl (.inl ⟨_, by rw [rd_int h], hq _ H (Le.refl _ _) (post_int st)⟩)
  · cases e
    obtain ⟨v, rfl, h⟩ := rdl1 r
    exact .inl (.inr ⟨_, by rw [rd_bl h], hq _ H (Le.refl _ _) (post_int st)⟩)
  · rename_i s
    split at e
    · rename_i hl
      cases k : PySem.intText? s with
      | none => rw [k] at e; cases e
      | some n =>
        rw [k] at e; cases e
        obtain ⟨v, rfl, h⟩ := rdl1 r
        exact .inr ⟨s, n, by rw [rd_str h], k, hl, hq _ H (Le.refl _ _) (post_int st)⟩
    · cases e
  · cases e
theorem c_str : CallO X (.type "str") cStr := CallR.imp call_str_int fun xs H Q ⟨mu, M, ps, d, st, r, e, hq⟩ => by
  unfold cStr at e
  split at e
  · split at e
    · rename_i i hl
      cases e
      obtain ⟨v, rfl, h⟩ := rdl1 r
      exact ⟨i, by rw [rd_int h], Nat.lt_of_lt_of_le (PySem.Flt.log2_lt_of (by decide) hl) (by decide), hq _ H (Le.refl _ _) (post_str st)⟩
    · cases e
  · cases e
theorem c_max (hc : X.calm = true) : CallO X (.builtin "max") cMax := CallR.imp ((call_max2 hc).or (cr_max hc)) fun xs H Q ⟨mu, M, ps, d, st, r, e, hq⟩ => by
  unfold cMax at e
  split at e
  · cases e
    obtain ⟨v, w, rfl, h1, h2⟩ := rdl2 r
    exact .inl ⟨_, _, by rw [rd_int h1, rd_int h2], hq _ H (Le.refl _ _) (post_int st)⟩
  · split at e
    · rename_i ns hn
      split at e
      · cases e
      · rename_i hne
        cases e
        obtain ⟨v, rfl, h⟩ := rdl1 r
        obtain ⟨a, vs, rfl, h1, h2⟩ := rd_lst h
        have ev := ints_rep hn h2
        obtain ⟨m1, m2⟩ := maxL_mem hne
        refine .inr ⟨a, ns, rfl, .of (by rw [h1, ev]), List.length_pos_iff.mpr hne, fun m k1 k2 => ?_⟩
        have : m = maxL ns := Int.le_antisymm (m2 m k1) (k2 _ m1)
        rw [this]
        exact hq _ H (Le.refl _ _) (post_int st)
    · cases e
  · cases e
theorem c_min (hc : X.calm = true) : CallO X (.builtin "min") cMin := CallR.imp ((call_min2 hc).or (cr_min hc)) fun xs H Q ⟨mu, M, ps, d, st, r, e, hq⟩ => by
  unfold cMin at e
  split at e
  · cases e
    obtain ⟨v, w, rfl, h1, h2⟩ := rdl2 r
    exact .inl ⟨_, _, by rw [rd_int h1, rd_int h2], hq _ H (Le.refl _ _) (post_int st)⟩
  · split at e
    · rename_i ns hn
      split at e
      · cases e
      · rename_i hne
        cases e
        obtain ⟨v, rfl, h⟩ := rdl1 r
        obtain ⟨a, vs, rfl, h1, h2⟩ := rd_lst h
        have ev := ints_rep hn h2
        obtain ⟨m1, m2⟩ := minL_mem hne
        refine .inr ⟨a, ns, rfl, .of (by rw [h1, ev]), List.length_pos_iff.mpr hne, fun m k1 k2 => ?_⟩
        have : m = minL ns := Int.le_antisymm (k2 _ m1) (m2 m k1)
        rw [this]
        exact hq _ H (Le.refl _ _) (post_int st)
    · cases e
  · cases e
theorem c_sum (hc : X.calm = true) : CallO X (.builtin "sum") cSum := CallR.imp (cr_sum hc) fun xs H Q ⟨mu, M, ps, d, st, r, e, hq⟩ => by
  unfold cSum at e
  split at e
  · rename_i ps
    cases k : intsOf ps with
    | none => rw [k] at e; cases e
    | some ns =>
      rw [k] at e; cases e
      obtain ⟨v, rfl, h⟩ := rdl1 r
      obtain ⟨a, vs, rfl, h1, h2⟩ := rd_lst h
      exact ⟨a, ns, rfl, .of (by rw [h1, ints_rep k h2]), hq _ H (Le.refl _ _) (post_int st)⟩
  · cases e
theorem c_all (hc : X.calm = true) : CallO X (.builtin "all") cAll := CallR.imp (cr_all hc) fun xs H Q ⟨mu, M, ps, d, st, r, e, hq⟩ => by
  unfold cAll at e
  split at e
  · rename_i ps
    cases k : blsOf ps with
    | none => rw [k] at e; cases e
    | some ns =>
      rw [k] at e; cases e
      obtain ⟨v, rfl, h⟩ := rdl1 r
      obtain ⟨a, vs, rfl, h1, h2⟩ := rd_lst h
      exact ⟨a, ns, rfl, .of (by rw [h1, bls_rep k h2]), hq _ H (Le.refl _ _) (post_bl st)⟩
  · cases e
theorem c_tuple : CallO X (.type "tuple") cTuple := CallR.imp call_tuple_of fun xs H Q ⟨mu, M, ps, d, st, r, e, hq⟩ => by
  unfold cTuple at e
  split at e
  · cases e
    obtain ⟨v, rfl, h⟩ := rdl1 r
    obtain ⟨a, vs, rfl, h1, h2⟩ := rd_lst h
    exact ⟨a, vs, rfl, .inl ⟨.of h1, fun l hl => hq _ _ (Le.upd hl) (post_tup st hl h2)⟩⟩
  · cases e
    obtain ⟨v, rfl, h⟩ := rdl1 r
    obtain ⟨a, vs, rfl, h0, h1, h2⟩ := rd_tup h
    refine ⟨a, vs, rfl, .inr ⟨.of h1, hq _ H (Le.refl _ _) ⟨st, ?_⟩⟩⟩
    show Rep _ _ _ (.tup _) _
    unfold Rep
    exact ⟨a, vs, rfl, h0, h1, h2⟩
  · cases e
theorem c_list : CallO X (.type "list") cList := CallR.imp call_list_of fun xs H Q ⟨mu, M, ps, d, st, r, e, hq⟩ => by
  unfold cList at e
  split at e
  · cases e
    obtain ⟨v, rfl, h⟩ := rdl1 r
    obtain ⟨a, vs, rfl, h1, h2⟩ := rd_lst h
    exact ⟨a, vs, rfl, .inl (.of h1), fun l hl => hq _ _ (Le.upd hl) (post_nw st hl h2)⟩
  · cases e
    obtain ⟨v, rfl, h⟩ := rdl1 r
    obtain ⟨a, vs, rfl, h0, h1, h2⟩ := rd_tup h
    exact ⟨a, vs, rfl, .inr (.of h1), fun l hl => hq _ _ (Le.upd hl) (post_nw st hl h2)⟩
  · cases e
end

/-! ### methods that change nothing -/
def MtO (X : Cx) (id : String) (o : P → List P → Option D) : Prop :=
  MtR X id fun x xs H Q => ∃ mu M p ps d, StoOk X.g H mu mu M ∧ RdP X.g H mu p x ∧ RdL X.g H mu ps xs ∧ o p ps = some d ∧ ∀ v H', Le H mu H' mu → Post X.g H H' mu M d v → Q v H'
theorem MtR.imp {X : Cx} {f : String} {r r' : V → List V → Hp → VK → Prop} (h : MtR X f r) (i : ∀ y x H Q, r' y x H Q → r y x H Q) : MtR X f r' := fun pins s σ H y x v u Q I rx ry q => h pins s σ H y x v u Q I rx ry (i y x H Q q)
/-- the type of data -/
def isTy (T : String) : P → Bool
  | .str _ => T == "str"
  | .lst _ => T == "list"
  | _ => false
def eMt (T : String) (o : P → List P → Option D) (fa : EvD) (fs : EvA) : EvD := fun σ M => (fa σ M).bind fun d M1 => match d.get M1 with
  | some p0 => if isTy T p0 then (fs σ M1).bind fun ds M2 => (match d.get M2, getL M2 ds with
      | some p, some ps => (match o p ps with
        | some r => .ok r M2
        | none => .no)
      | _, _ => .no) else .no
  | none => .no
theorem ty_of {K : PySem.W.Frag} {g : Mg} {H : Hp} {e : List Addr} {p : P} {v : V} {T : String} (h : RdP g H e p v) (k : isTy T p = true) : tyV K T v H := by
  cases p <;> simp only [isTy, Bool.false_eq_true, beq_iff_eq] at k
  · subst k; rw [rd_str h]; exact rfl
  · subst k
    obtain ⟨a, vs, rfl, h1, h2⟩ := rd_lst h
    exact .inl ⟨rfl, vs, .of h1⟩
section
variable {X : Cx} {o e : Expr} {es : List Expr} {fa : EvD} {fs : EvA} {om : P → List P → Option D} {name : Str} {T id : String} {apos cpos : Pos}
theorem pv_mt (pa : PlainAttrs T) (slot : Slot T name id) (hty : typeOf (.builtin id) = pure (.type "method_descriptor")) (hm : MtO X id om) (ho : PEv X o fa) (ha : PAv X (e :: es) fs)
    (hbase : attributeBase o name X.env (eval o X.env) = eval o X.env)
    (hfew : ((backTo cpos (starEach (e :: es) X.env)).all (fun x => !x.1) && (backToKw cpos (keywordEach [] X.env)).all (fun x => x.1.isSome)
      && decide ((e :: es).length + ([] : List Keyword).length + (if ([] : List Keyword).isEmpty then 0 else 1) < 30)) = true)
    (hline : (apos.endLine == cpos.line) = true) (hs : starEach (e :: es) X.env = (false, eval e X.env) :: starEach es X.env) (hplain : (backTo cpos (starEach es X.env)).any (·.1) = false) :
    PEv X (.Call (.Attribute o name apos) (e :: es) [] cpos) (eMt T om fa fs) := fun W tk => PE.imp (pe_bm pa slot hty hm (ho W tk) (ha W tk) hbase hfew hline hs hplain) fun τ H Q ⟨σ, M, mu, s, st, h⟩ => by
  refine ⟨σ, M, mu, s, st, (PostO.bind h).mono fun x H1 ⟨mu1, d, M1, l1, st1, r1, h1⟩ => ?_⟩
  dsimp only at h1
  split at h1
  · rename_i p0 hp0
    split at h1
    · rename_i hT
      refine ⟨ty_of (r1.get st1 (by rw [get_val]; exact hp0)) hT, ?_⟩
      refine ⟨σ, M1, mu1, s.mono l1, st1, (PostA.bind h1).mono fun vs H2 ⟨mu2, ds, M2, l2, st2, r2, h2⟩ => ?_⟩
      split at h2
      · rename_i p ps e1 e2
        split at h2
        · rename_i r e3
          exact ⟨mu2, M2, p, ps, r, st2, (r1.mono l2).get st2 (by rw [get_val]; exact e1), getL_rd st2 e2 r2, e3, fun v H3 l3 p3 => h2 v H3 mu2 l3 p3⟩
        · exact h2.elim
      · exact h2.elim
    · exact h1.elim
  · exact h1.elim
def mJoin : P → List P → Option D
  | .str a, [.lst ps] => match strsOf ps with
    | some ys => if (ys.map (·.length)).sum + ys.length * a.length ≤ lim then some (.p (.str (Txt.join a ys))) else none
    | none => none
  | _, _ => none
def mSplit : P → List P → Option D
  | .str a, [.str b] => if b.length ≠ 0 ∧ a.length + 2 ≤ lim then some (.nw ((Txt.split a b).map P.str)) else none
  | _, _ => none
def mCount : P → List P → Option D
  | .lst ps, [.int k] => match intsOf ps with
    | some ns => some (.p (.int (ns.count k)))
    | none => none
  | _, _ => none
/-- the place of the one sign -/
def mIndexS : P → List P → Option D
  | .str a, [.str b] => match Txt.index0 a b with
    | some k => some (.p (.int (k : Nat)))
    | none => none
  | _, _ => none
def findV (x : V) : List V → Nat → Option Nat
  | [], _ => none
  | y :: ys, j => if eqV y x then some j else findV x ys (j + 1)
def mIndexL : P → List P → Option D
  | .lst ps, [q] => match flatP q, flatL ps with
    | some v, some vs => (findV v vs 0).map fun j => .p (.int (j : Nat))
    | _, _ => none
  | _, _ => none
theorem m_join : MtO X "str.join" mJoin := MtR.imp mt_join fun x xs H Q ⟨mu, M, p, ps, d, st, rx, r, e, hq⟩ => by
  unfold mJoin at e
  split at e
  · split at e
    · rename_i ys hy
      split at e
      · rename_i hl
        cases e
        obtain ⟨v, rfl, h⟩ := rdl1 r
        obtain ⟨a, vs, rfl, h1, h2⟩ := rd_lst h
        exact ⟨_, a, ys, rd_str rx, rfl, .inl (.of (by rw [h1, strs_rep hy h2])), lim_le hl, hq _ H (Le.refl _ _) (post_str st)⟩
      · cases e
    · cases e
  · cases e
theorem m_split : MtO X "str.split" mSplit := MtR.imp mt_split fun x xs H Q ⟨mu, M, p, ps, d, st, rx, r, e, hq⟩ => by
  unfold mSplit at e
  split at e
  · split at e
    · rename_i hl
      cases e
      obtain ⟨v, rfl, h⟩ := rdl1 r
      exact ⟨_, _, rd_str rx, by rw [rd_str h], by simpa using hl.1, lim_le hl.2, fun q hn => hq _ _ (Le.upd hn) (post_nw st hn (RepL.of_strs _))⟩
    · cases e
  · cases e
theorem m_count : MtO X "list.count" mCount := MtR.imp mt_lcount fun x xs H Q ⟨mu, M, p, ps, d, st, rx, r, e, hq⟩ => by
  unfold mCount at e
  split at e
  · split at e
    · rename_i ns hn
      cases e
      obtain ⟨v, rfl, h⟩ := rdl1 r
      obtain ⟨a, vs, rfl, h1, h2⟩ := rd_lst rx
      exact ⟨a, ns, _, rfl, by rw [rd_int h], .of (by rw [h1, ints_rep hn h2]), hq _ H (Le.refl _ _) (post_int st)⟩
    · cases e
  · cases e
theorem m_indexS (hc : X.calm = true) : MtO X "str.index" mIndexS := fun pins s σ H x xs v us Q I rx rs ⟨mu, M, p, ps, d, st, rp, r, e, hq⟩ => by
  refine mt_indexX (W := fun _ _ _ _ => False) hc takes0 pins s σ H x xs v us Q I rx rs ?_
  unfold mIndexS at e
  split at e
  · split at e
    · rename_i k hk
      cases e
      obtain ⟨v, rfl, h⟩ := rdl1 r
      refine ⟨_, _, rd_str rp, by rw [rd_str h], fun k' hk' => ?_, fun z => by rw [hk] at z; cases z⟩
      rw [hk] at hk'
      cases hk'
      exact hq _ H (Le.refl _ _) (post_int st)
    · cases e
  · cases e
theorem findV_some {x : V} : ∀ {ys : List V} {k j : Nat}, findV x ys k = some j → ∃ z, k ≤ j ∧ ys[j - k]? = some z ∧ eqV z x = true ∧ ∀ (m : Nat) (z' : V), m < j - k → ys[m]? = some z' → eqV z' x = false
  | [], _, _, h => by cases h
  | y :: ys, k, j, h => by
    unfold findV at h
    split at h
    · rename_i hy
      cases h
      exact ⟨y, Nat.le_refl _, by simp, hy, fun m z' hm => by omega⟩
    · rename_i hy
      obtain ⟨z, h1, h2, h3, h4⟩ := findV_some h
      have e : j - k = (j - (k + 1)) + 1 := by omega
      refine ⟨z, by omega, by rw [e]; simpa using h2, h3, fun m z' hm hz => ?_⟩
      cases m with
      | zero =>
        simp at hz
        subst hz
        simpa using hy
      | succ m => exact h4 m z' (by omega) (by simpa using hz)
theorem m_indexL : MtO X "list.index" mIndexL := MtR.imp mt_index fun x xs H Q ⟨mu, M, p, ps, d, st, rx, r, e, hq⟩ => by
  unfold mIndexL at e
  split at e
  · split at e
    · rename_i w vs e1 e2
      cases k : findV w vs 0 with
      | none => rw [k] at e; cases e
      | some j =>
        rw [k] at e; cases e
        obtain ⟨v, rfl, h⟩ := rdl1 r
        obtain ⟨a, us, rfl, h1, h2⟩ := rd_lst rx
        have h' := rd_rep h fun ps z => by subst z; cases e1
        obtain ⟨rfl, fx⟩ := flat_rep h' e1
        obtain ⟨rfl, fl⟩ := flat_repL h2 e2
        obtain ⟨z, _, k2, k3, k4⟩ := findV_some k
        exact ⟨a, us, v, j, z, rfl, rfl, .of h1, fx, fl, k2, k3, k4, hq _ H (Le.refl _ _) (post_int st)⟩
    · cases e
  · cases e

/-! ### sorted of pairs of ints -/
def pairsOf : List P → Option (List (Int × Int))
  | [] => some []
  | .tup [.int a, .int b] :: ps => (pairsOf ps).map fun r => (a, b) :: r
  | _ :: _ => none
def pairP (x : Int × Int) : P := .tup [.int x.1, .int x.2]
def insP (x : Int × Int) : List (Int × Int) → List (Int × Int)
  | [] => [x]
  | y :: r => if SrtO.lexB y x then y :: insP x r else x :: y :: r
def sortP : List (Int × Int) → List (Int × Int)
  | [] => []
  | x :: r => insP x (sortP r)
theorem insP_perm (x : Int × Int) : ∀ l, (insP x l).Perm (x :: l)
  | [] => List.Perm.refl _
  | y :: r => by
    unfold insP
    split
    · exact ((insP_perm x r).cons y).trans (List.Perm.swap _ _ _)
    · exact List.Perm.refl _
theorem sortP_perm : ∀ l, (sortP l).Perm l
  | [] => List.Perm.refl _
  | x :: r => (insP_perm x _).trans ((sortP_perm r).cons x)
def leP (x y : Int × Int) : Prop := SrtO.lexB y x = false
theorem leP_iff {x y : Int × Int} : leP x y ↔ x.1 < y.1 ∨ (x.1 = y.1 ∧ x.2 ≤ y.2) := by
  unfold leP
  rw [Bool.eq_false_iff, Ne, SrtO.lexB_iff]
  omega
theorem insP_sorted (x : Int × Int) : ∀ {l}, List.Pairwise leP l → List.Pairwise leP (insP x l)
  | [], _ => List.pairwise_singleton _ _
  | y :: r, h => by
    obtain ⟨h1, h2⟩ := List.pairwise_cons.mp h
    unfold insP
    split
    · rename_i hy
      refine List.pairwise_cons.mpr ⟨fun z hz => ?_, insP_sorted x h2⟩
      rcases List.mem_cons.mp ((insP_perm x r).mem_iff.mp hz) with rfl | hz
      · have := SrtO.lexB_iff.mp hy
        rw [leP_iff]; omega
      · exact h1 z hz
    · rename_i hy
      have hxy : leP x y := by unfold leP; simpa using hy
      refine List.pairwise_cons.mpr ⟨fun z hz => ?_, h⟩
      rcases List.mem_cons.mp hz with rfl | hz
      · exact hxy
      · have := h1 z hz
        rw [leP_iff] at *
        omega
theorem sortP_sorted : ∀ l, List.Pairwise leP (sortP l)
  | [] => List.Pairwise.nil
  | x :: r => insP_sorted x (sortP_sorted r)
theorem leP_uniq : ∀ {l m : List (Int × Int)}, l.Perm m → List.Pairwise leP l → List.Pairwise leP m → l = m
  | [], m, h, _, _ => (List.Perm.eq_nil h.symm).symm
  | x :: l, [], h, _, _ => absurd h.length_eq (by simp)
  | x :: l, y :: m, h, hl, hm => by
    obtain ⟨a1, a2⟩ := List.pairwise_cons.mp hl
    obtain ⟨b1, b2⟩ := List.pairwise_cons.mp hm
    have e : x = y := by
      have hx : x ∈ y :: m := h.mem_iff.mp List.mem_cons_self
      have hy : y ∈ x :: l := h.mem_iff.mpr List.mem_cons_self
      rcases List.mem_cons.mp hx with e | hx
      · exact e
      · rcases List.mem_cons.mp hy with e | hy
        · exact e.symm
        · have p := b1 x hx
          have q := a1 y hy
          rw [leP_iff] at p q
          exact Prod.ext (by omega) (by omega)
    subst e
    rw [leP_uniq h.cons_inv a2 b2]
def cSorted : List P → Option D
  | [.lst ps] => (pairsOf ps).map fun l => .nw ((sortP l).map pairP)
  | _ => none
/-- the pair that stands at a value -/
def keyAt (H : Hp) : V → Int × Int
  | .ref t => match H t with
    | some (.tup [.int a, .int b]) => (a, b)
    | _ => (0, 0)
  | _ => (0, 0)
theorem pairsOf_rep {g : Mg} {H : Hp} {e : List Addr} : ∀ {ps : List P} {l : List (Int × Int)} {vs : List V}, pairsOf ps = some l → RepL g H e ps vs →
    vs.map (keyAt H) = l ∧ ∀ x ∈ vs, ∃ t, x = V.ref t ∧ t ∉ e ∧ H t = some (.tup [.int (keyAt H x).1, .int (keyAt H x).2])
  | [], l, vs, k, h => by unfold pairsOf at k; cases k; rw [h.nil_inv]; exact ⟨rfl, fun x hx => absurd hx (by simp)⟩
  | q :: ps, l, vs, k, h => by
    unfold pairsOf at k
    split at k
    · rename_i h0; cases h0
    · rename_i a b ps' h0
      injection h0 with h01 h02
      subst h01 h02
      obtain ⟨v, r, rfl, h1, h2⟩ := h.cons_inv
      cases kk : pairsOf ps with
      | none => rw [kk] at k; cases k
      | some m =>
        rw [kk] at k
        cases k
        obtain ⟨i1, i2⟩ := pairsOf_rep kk h2
        unfold Rep at h1
        obtain ⟨t, us, rfl, ht, g1, g2⟩ := h1
        obtain ⟨u1, r1, rfl, j1, j2⟩ := g2.cons_inv
        obtain ⟨u2, r2, rfl, j3, j4⟩ := j2.cons_inv
        have j5 := j4.nil_inv
        subst j5
        unfold Rep at j1 j3
        subst j1 j3
        have ek : keyAt H (.ref t) = (a, b) := by
          show (match H t with
            | some (.tup [.int a, .int b]) => (a, b)
            | _ => ((0, 0) : Int × Int)) = (a, b)
          rw [g1]
        refine ⟨by rw [List.map_cons, ek, i1], fun x hx => ?_⟩
        rcases List.mem_cons.mp hx with rfl | hx
        · exact ⟨t, rfl, ht, by rw [ek]; exact g1⟩
        · exact i2 x hx
    · cases k
theorem pair_repL {g : Mg} {H : Hp} {e : List Addr} : ∀ {vs : List V}, (∀ x ∈ vs, ∃ t, x = V.ref t ∧ t ∉ e ∧ H t = some (.tup [.int (keyAt H x).1, .int (keyAt H x).2])) → RepL g H e ((vs.map (keyAt H)).map pairP) vs
  | [], _ => RepL.nil
  | v :: r, h => by
    obtain ⟨t, h1, h2, h3⟩ := h v List.mem_cons_self
    refine RepL.cons ?_ (pair_repL fun x hx => h x (List.mem_cons_of_mem _ hx))
    unfold pairP
    unfold Rep
    exact ⟨t, _, h1, h2, h3, RepL.cons (by unfold Rep; rfl) (RepL.cons (by unfold Rep; rfl) RepL.nil)⟩
theorem c_sorted : CallO X (.builtin "sorted") cSorted := CallR.imp cr_sortedPO fun xs H Q ⟨mu, M, ps, d, st, r, e, hq⟩ => by
  unfold cSorted at e
  split at e
  · rename_i ps
    cases k : pairsOf ps with
    | none => rw [k] at e; cases e
    | some l =>
      rw [k] at e
      cases e
      obtain ⟨v, rfl, h⟩ := rdl1 r
      obtain ⟨a, vs, rfl, h1, h2⟩ := rd_lst h
      obtain ⟨i1, i2⟩ := pairsOf_rep k h2
      refine ⟨a, vs, keyAt H, rfl, .of h1, fun x hx => ?_, fun ys p s1 s2 hp => ?_⟩
      · obtain ⟨t, e1, _, e2⟩ := i2 x hx
        exact ⟨t, e1, e2⟩
      · have pm : (ys.map (keyAt H)).Perm l := by rw [← i1]; exact s2.perm.map _
        have so : List.Pairwise leP (ys.map (keyAt H)) := List.pairwise_map.mpr s1
        have eq := leP_uniq (pm.trans (sortP_perm l).symm) so (sortP_sorted l)
        have rp := pair_repL (g := X.g) (H := H) (e := mu) (vs := ys) fun x hx => i2 x (s2.perm.mem_iff.mp hx)
        rw [eq] at rp
        exact hq _ _ (Le.upd hp) (post_nw st hp rp)
  · cases e
end
end Ev

set_option Elab.async false
set_option linter.all false
set_option maxRecDepth 100000
set_option maxHeartbeats 4000000
/-! Core6: statements, functions. -/
namespace Ev
open PySem PySem.Spec PyProof.Rows L2

inductive Fl where
  | nx (σ : Fr) | rt (d : D) | bk (σ : Fr) | ct (σ : Fr)
inductive OutS where
  | ok (f : Fl) (M : Sto) | er (c : Str) (n : Option Int) (σ : Fr) (M : Sto) | no
abbrev EvS := Fr → Sto → OutS
def EndsF (g : Mg) (H : Hp) (mu : List Addr) (D : Ends) (M : Sto) : Fl → Prop
  | .nx σ => ∀ τ' H' mu', Le H mu H' mu' → SlOk g H' mu' σ τ' → StoOk g H' mu' mu' M → D.nx τ' H'
  | .bk σ => ∀ τ' H' mu', Le H mu H' mu' → SlOk g H' mu' σ τ' → StoOk g H' mu' mu' M → D.bk τ' H'
  | .ct σ => ∀ τ' H' mu', Le H mu H' mu' → SlOk g H' mu' σ τ' → StoOk g H' mu' mu' M → D.ct τ' H'
  | .rt d => ∀ v H' mu', Le H mu H' mu' → Post g H H' mu' M d v → D.rt v H'
def PostS (g : Mg) (H : Hp) (mu : List Addr) (W : WX) (o : OutS) (D : Ends) : Prop :=
  match o with
  | .ok f M => EndsF g H mu D M f
  | .er c n σ M => ∀ cls dd τ' H' mu', Le H mu H' mu' → SlOk g H' mu' σ τ' → StoOk g H' mu' mu' M → ExcR g c n cls dd H' → W cls dd τ' H'
  | .no => False
def tS (g : Mg) (W : WX) (f : EvS) : TS := fun D τ H => ∃ σ M mu, SlOk g H mu σ τ ∧ StoOk g H mu mu M ∧ PostS g H mu W (f σ M) D
def PSv (X : Cx) (st : Stmt) (f : EvS) : Prop := ∀ W, L2N.Takes X W → PS X st (tS X.g W f)
def PSsv (X : Cx) (st : List Stmt) (f : EvS) : Prop := ∀ W, L2N.Takes X W → PSs X st (tS X.g W f)
theorem PS.imp {X : Cx} {e : Stmt} {t t' : TS} (h : PS X e t) (i : ∀ D τ H, t' D τ H → t D τ H) : PS X e t' := ⟨fun pins s σ H D I q => h.run pins s σ H D I (i D σ H q)⟩
theorem PSs.imp {X : Cx} {e : List Stmt} {t t' : TS} (h : PSs X e t) (i : ∀ D τ H, t' D τ H → t D τ H) : PSs X e t' := ⟨fun pins s σ H D I q => h.run pins s σ H D I (i D σ H q)⟩

@[simp] def Out.toS {α : Type} : Out α → Fr → (α → Sto → OutS) → OutS
  | .ok a M, _, k => k a M
  | .er c n M, σ, _ => .er c n σ M
  | .no, _, _ => .no
def sNil : EvS := fun σ M => .ok (.nx σ) M
def sSeq (f r : EvS) : EvS := fun σ M => match f σ M with
  | .ok (.nx σ1) M1 => r σ1 M1
  | o => o
def sExpr (f : EvD) : EvS := fun σ M => (f σ M).toS σ fun _ M1 => .ok (.nx σ) M1
def sRet (f : EvD) : EvS := fun σ M => (f σ M).toS σ fun d M1 => .ok (.rt d) M1
def sRetN : EvS := fun _ M => .ok (.rt (.p .non)) M
def sIf (c : EvB) (f r : EvS) : EvS := fun σ M => (c σ M).toS σ fun b M1 => if b = true then f σ M1 else r σ M1
def sSet (i : Nat) (f : EvD) : EvS := fun σ M => (f σ M).toS σ fun d M1 => .ok (.nx (σ.set i (some d.val))) M1
/-- of a variable whose list will change -/
def sSetM (i : Nat) (f : EvD) : EvS := fun σ M => (f σ M).toS σ fun d M1 => match d with
  | .nw ps => .ok (.nx (σ.set i (some (.loc M1.length)))) (M1 ++ [.lst ps])
  | d => .ok (.nx (σ.set i (some d))) M1
def sBk : EvS := fun σ M => .ok (.bk σ) M
def sCt : EvS := fun σ M => .ok (.ct σ) M
def sRaise (x : Str) : EvS := fun σ M => .er x none σ M

section
variable {g : Mg} {H H' : Hp} {mu mu' : List Addr} {τ : L2.St} {W : WX} {D D' : Ends} {σ : Fr} {M : Sto}
theorem PostS.shift {o : OutS} (l : Le H mu H' mu') (h : PostS g H mu W o D) : PostS g H' mu' W o D := by
  cases o with
  | ok f M =>
    cases f with
    | nx σ => exact fun t H2 mu2 l2 s p => h t H2 mu2 (l.trans l2) s p
    | bk σ => exact fun t H2 mu2 l2 s p => h t H2 mu2 (l.trans l2) s p
    | ct σ => exact fun t H2 mu2 l2 s p => h t H2 mu2 (l.trans l2) s p
    | rt d => exact fun v H2 mu2 l2 p => h v H2 mu2 (l.trans l2) (p.back l.back)
  | er c n σ M => exact fun cls dd t H2 mu2 l2 s st x => h cls dd t H2 mu2 (l.trans l2) s st x
  | no => exact h
theorem PostO.bindS {o : Out Ev.D} {k : Ev.D → Sto → OutS} (s : SlOk g H mu σ τ) (h : PostS g H mu W (o.toS σ k) D) : PostO g H mu τ W o (Then g H mu fun d M' H' mu' => PostS g H' mu' W (k d M') D) := by
  cases o with
  | ok d M => exact fun v H2 mu2 l2 p => ⟨mu2, d, M, l2, p.val.1, p.val.2, PostS.shift l2 h⟩
  | er c n M => exact fun cls dd H2 mu2 l2 st x => h cls dd τ H2 mu2 l2 (s.mono l2) st x
  | no => exact h.elim
theorem PostB.bindS {o : Out Bool} {k : Bool → Sto → OutS} (s : SlOk g H mu σ τ) (h : PostS g H mu W (o.toS σ k) D) : PostB g H mu τ W o (fun b H' => ∃ mu' M', Le H mu H' mu' ∧ StoOk g H' mu' mu' M' ∧ PostS g H' mu' W (k b M') D) := by
  cases o with
  | ok d M => exact fun H2 mu2 l2 p => ⟨mu2, M, l2, p, PostS.shift l2 h⟩
  | er c n M => exact fun cls dd H2 mu2 l2 st x => h cls dd τ H2 mu2 l2 (s.mono l2) st x
  | no => exact h.elim
theorem PostA.bindS {o : Out (List Ev.D)} {k : List Ev.D → Sto → OutS} (s : SlOk g H mu σ τ) (h : PostS g H mu W (o.toS σ k) D) : PostA g H mu τ W o (fun vs H' => ∃ mu' ds M', Le H mu H' mu' ∧ StoOk g H' mu' mu' M' ∧ RepDL g H' mu' ds vs ∧ PostS g H' mu' W (k ds M') D) := by
  cases o with
  | ok ds M => exact fun vs H2 mu2 l2 st r => ⟨mu2, ds, M, l2, st, r, PostS.shift l2 h⟩
  | er c n M => exact fun cls dd H2 mu2 l2 st x => h cls dd τ H2 mu2 l2 (s.mono l2) st x
  | no => exact h.elim
/-- the end nx changed -/
theorem PostS.seq {f r : EvS} (h : PostS g H mu W (sSeq f r σ M) D) : PostS g H mu W (f σ M) { D with nx := tS g W r D } := by
  unfold sSeq at h
  split at h
  · rename_i σ1 M1 e
    rw [e]
    exact fun t H2 mu2 l2 s st => ⟨σ1, M1, mu2, s, st, PostS.shift l2 h⟩
  · rename_i o hne
    revert h
    cases e : f σ M with
    | ok fl M1 =>
      cases fl with
      | nx σ1 => exact absurd e (hne σ1 M1)
      | bk _ => exact fun h => h
      | ct _ => exact fun h => h
      | rt _ => exact fun h => h
    | er _ _ _ _ => exact fun h => h
    | no => exact fun h => h
end
section
variable {X : Cx} {e c : Expr} {f fa : EvD} {k : EvB} {r1 r2 : EvS} {st : Stmt} {rest a b : List Stmt} {pos : Pos}
theorem pssv_nil : PSsv X [] sNil := fun W tk => PSs.imp pss_nil fun D τ H ⟨σ, M, mu, s, st, h⟩ => h τ H mu (Le.refl _ _) s st
theorem pssv_cons (h1 : PSv X st r1) (h2 : PSsv X rest r2) : PSsv X (st :: rest) (sSeq r1 r2) := fun W tk =>
  PSs.imp (pss_cons (h1 W tk) (h2 W tk)) fun D τ H ⟨σ, M, mu, s, st, h⟩ => ⟨σ, M, mu, s, st, h.seq⟩
theorem psv_pass : PSv X (.Pass pos) sNil := fun W tk => PS.imp ps_pass fun D τ H ⟨σ, M, mu, s, st, h⟩ => h τ H mu (Le.refl _ _) s st
theorem psv_bk : PSv X (.Break pos) sBk := fun W tk => PS.imp ps_break fun D τ H ⟨σ, M, mu, s, st, h⟩ => h τ H mu (Le.refl _ _) s st
theorem psv_ct : PSv X (.Continue pos) sCt := fun W tk => PS.imp ps_continue fun D τ H ⟨σ, M, mu, s, st, h⟩ => h τ H mu (Le.refl _ _) s st
theorem psv_expr (he : PEv X e f) (hs : swapsWith e none pos.line X.env = pure false) : PSv X (.Expr e pos) (sExpr f) := fun W tk =>
  PS.imp (ps_expr (he W tk) hs) fun D τ H ⟨σ, M, mu, s, st, h⟩ =>
    ⟨σ, M, mu, s, st, (PostO.bindS s h).mono fun v H1 ⟨mu1, d, M1, l1, st1, r1, h1⟩ => h1 τ H1 mu1 (Le.refl _ _) (s.mono l1) st1⟩
theorem psv_ret (he : PEv X e f) : PSv X (.Return (some e) pos) (sRet f) := fun W tk =>
  PS.imp (ps_ret (he W tk)) fun D τ H ⟨σ, M, mu, s, st, h⟩ => by
    refine ⟨σ, M, mu, s, st, ?_⟩
    unfold sRet at h
    cases e : f σ M with
    | ok d M1 => rw [e] at h; exact h
    | er c n M1 => rw [e] at h; exact fun cls dd H2 mu2 l2 st x => h cls dd τ H2 mu2 l2 (s.mono l2) st x
    | no => rw [e] at h; exact h
theorem psv_retN : PSv X (.Return none pos) sRetN := fun W tk => PS.imp ps_retN fun D τ H ⟨σ, M, mu, s, st, h⟩ => h .non H mu (Le.refl _ _) ⟨st, by show Rep _ _ _ _ _; unfold Rep; rfl⟩
theorem psv_if (hc : PTv X c k) (ha : PSsv X a r1) (hb : PSsv X b r2) : PSv X (.If c a b pos) (sIf k r1 r2) := fun W tk =>
  PS.imp (ps_if (hc W tk) (ha W tk) (hb W tk)) fun D τ H ⟨σ, M, mu, s, st, h⟩ => by
    refine ⟨σ, M, mu, s, st, (PostB.bindS s h).mono fun b H1 ⟨mu1, M1, l1, st1, h1⟩ => ?_⟩
    cases b with
    | true => exact iteT ⟨σ, M1, mu1, s.mono l1, st1, h1⟩
    | false => exact iteF ⟨σ, M1, mu1, s.mono l1, st1, h1⟩
theorem set_of {W : WX} {i : Nat} {D : Ends} {τ : L2.St} {H : Hp} (h : tS X.g W (sSet i f) D τ H) : tAsg (tE X.g W f) (gName i) D τ H := by
  obtain ⟨σ, M, mu, s, st, h⟩ := h
  exact ⟨σ, M, mu, s, st, (PostO.bindS s h).mono fun v H1 ⟨mu1, d, M1, l1, st1, r1, h1⟩ => h1 _ H1 mu1 (Le.refl _ _) ((s.mono l1).set i r1) st1⟩
theorem le_push {H₀ H : Hp} {mu₀ mu : List Addr} {p : Addr} (l : Le H₀ mu₀ H mu) (h : H₀ p = none) : Le H₀ mu₀ H (mu ++ [p]) :=
  ⟨l.pre.trans (List.prefix_append _ _), l.keep, fun a q => by
    rcases List.mem_append.mp q with q | q
    · exact l.new a q
    · rw [List.mem_singleton.mp q]; exact .inr h, l.back⟩
theorem setM_of {W : WX} {i : Nat} {D : Ends} {τ : L2.St} {H : Hp} (h : tS X.g W (sSetM i f) D τ H) : tAsg (tE X.g W f) (gName i) D τ H := by
  obtain ⟨σ, M, mu, s, st, h⟩ := h
  refine ⟨σ, M, mu, s, st, ?_⟩
  unfold sSetM at h
  cases e : f σ M with
  | ok d M1 =>
    rw [e] at h
    intro v H1 mu1 l1 p1
    cases d with
    | nw ps =>
      obtain ⟨p, vs, rfl, hp, hpm, h1, h2, h3⟩ := p1
      have l2 := le_push l1 hp
      refine h _ H1 (mu1 ++ [p]) l2 ?_ (h3.push hpm ⟨vs, h1, h2⟩)
      refine (s.mono l2).set i ⟨p, ?_, rfl⟩
      rw [← h3.len, List.getElem?_append_right (Nat.le_refl _), Nat.sub_self]
      rfl
    | p q => exact h _ H1 mu1 l1 ((s.mono l1).set i p1.val.2) p1.val.1
    | loc q => exact h _ H1 mu1 l1 ((s.mono l1).set i p1.val.2) p1.val.1
  | er c n M1 => rw [e] at h; exact fun cls dd H2 mu2 l2 st x => h cls dd τ H2 mu2 l2 (s.mono l2) st x
  | no => rw [e] at h; exact h
theorem psv_set {i : Nat} {x : Str} {pos' : Pos} (hN : X.N.Nodup) (hi : X.N[i]? = some x) (hx : Loc X.env.scope x) (he : PEv X e f) (hs : swapsWith e (some (.Name x pos')) pos.line X.env = pure false) (hf : X.fn x = true ∨ X.env.scope.names.lookup x = some .local) :
    PSv X (.Assign [.Name x pos'] e pos) (sSet i f) := fun W tk => PS.imp (ps_set hN hi hx (he W tk) hs hf) fun D τ H h => set_of h
theorem psv_setM {i : Nat} {x : Str} {pos' : Pos} (hN : X.N.Nodup) (hi : X.N[i]? = some x) (hx : Loc X.env.scope x) (he : PEv X e f) (hs : swapsWith e (some (.Name x pos')) pos.line X.env = pure false) (hf : X.fn x = true ∨ X.env.scope.names.lookup x = some .local) :
    PSv X (.Assign [.Name x pos'] e pos) (sSetM i f) := fun W tk => PS.imp (ps_set hN hi hx (he W tk) hs hf) fun D τ H h => setM_of h
end

/-! ### functions -/
abbrev Fn := List D → Sto → Out D
def spOf (g : Mg) (n : Nat) (F : Fn) : Sp := fun vs H Q E => ∃ ds M mu, ds.length = n ∧ RepDL g H mu ds vs ∧ StoOk g H mu mu M ∧ PostO g H mu [] (fun c d _ H => E c d H) (F ds M) Q
def FnG (P : Program) (w : World) (K : PySem.W.Frag) (mg : Str → Option Value) (base : Heap) (k : Nat) (x : Str) (n : Nat) (F : Fn) : Prop :=
  ∃ f fd ps, FnOk P w K mg base (L2N.CX P w) k f fd ps (spOf ⟨mg, K⟩ n F) ∧ mg x = some (.ref f) ∧ PySem.W.keepIn K (.ref f) = true ∧ Binds K fd ps []
theorem FnG.mono {P : Program} {w : World} {K : PySem.W.Frag} {mg : Str → Option Value} {base : Heap} {k k' : Nat} {x : Str} {n : Nat} {F : Fn} (h : FnG P w K mg base k x n F) (l : k ≤ k') : FnG P w K mg base k' x n F :=
  let ⟨f, fd, ps, a, b, c, d⟩ := h; ⟨f, fd, ps, a.mono l, b, c, d⟩
def eCall (n : Nat) (F : Fn) (fs : EvA) : EvD := fun σ M => (fs σ M).bind fun ds M1 => if ds.length = n then F ds M1 else .no
/-- what a def gives back: what it made for itself is gone -/
def leave (L : Nat) : OutS → Out D
  | .ok (.nx _) M => .ok (.p .non) (M.take L)
  | .ok (.rt (.loc n)) M => if n < L then .ok (.loc n) (M.take L) else match M[n]? with
    | some (.lst ps) => .ok (.nw ps) (M.take L)
    | some (.ins c fs) => .ok (.loc L) (M.take L ++ [.ins c fs])
    | none => .no
  | .ok (.rt d) M => .ok d (M.take L)
  | .ok _ _ => .no
  | .er c n _ M => .er c n (M.take L)
  | .no => .no
def fnB (N : Nat) (f : EvS) : Fn := fun ds M => leave M.length (f (ds.map some ++ List.replicate (N - ds.length) none) M)
section
variable {g : Mg} {H H' : Hp} {mu mu' : List Addr} {M M' : Sto}
theorem Le.cut (l : Le H mu H' mu') : Le H mu H' mu := ⟨List.prefix_refl _, l.keep, fun _ q => .inl q, l.back⟩
theorem StoOk.cut (s : StoOk g H' mu' mu' M') (l : Le H mu H' mu') : StoOk g H' mu mu (M'.take mu.length) := by
  obtain ⟨t, rfl⟩ := l.pre
  have hl := s.len
  rw [List.length_append] at hl
  refine ⟨?_, (List.nodup_append.mp s.nd).1, fun _ q => q, fun n mo q => ?_⟩
  · rw [List.length_take]; omega
  · have hn : n < mu.length := by
      have := (List.getElem?_eq_some_iff.mp q).1
      rw [List.length_take] at this; omega
    rw [List.getElem?_take_of_lt hn] at q
    obtain ⟨a, h1, h2⟩ := s.obj n mo q
    rw [List.getElem?_append_left hn] at h1
    exact ⟨a, h1, h2.less fun a q => List.mem_append_left _ q⟩
theorem StoOk.cutx {p : Addr} (s : StoOk g H' mu' mu' M') (l : Le H mu H' mu') (hp : p ∈ mu') (hn : p ∉ mu) : StoOk g H' mu (mu ++ [p]) (M'.take mu.length) := by
  obtain ⟨t, rfl⟩ := l.pre
  have sub : ∀ a, a ∈ mu ++ [p] → a ∈ mu ++ t := fun a q => by
    rcases List.mem_append.mp q with q | q
    · exact List.mem_append_left _ q
    · rw [List.mem_singleton.mp q]; exact hp
  have hl := s.len
  rw [List.length_append] at hl
  refine ⟨?_, (List.nodup_append.mp s.nd).1, fun a q => List.mem_append_left _ q, fun n mo q => ?_⟩
  · rw [List.length_take]; omega
  · have hn : n < mu.length := by
      have := (List.getElem?_eq_some_iff.mp q).1
      rw [List.length_take] at this; omega
    rw [List.getElem?_take_of_lt hn] at q
    obtain ⟨a, h1, h2⟩ := s.obj n mo q
    rw [List.getElem?_append_left hn] at h1
    exact ⟨a, h1, h2.less sub⟩
theorem nodup_late {t : List Addr} {n : Nat} {a : Addr} (nd : (mu ++ t).Nodup) (h : (mu ++ t)[n]? = some a) (hn : mu.length ≤ n) : a ∉ mu := fun z => by
  rw [List.getElem?_append_right hn] at h
  exact (List.nodup_append.mp nd).2.2 a z a (List.mem_of_getElem? h) rfl
theorem leave_rt {d : Ev.D} {v : V} {W : WX} {Q : VK} (hm : mu.length = M.length) (l : Le H mu H' mu') (p : Post g H H' mu' M' d v) (h : PostO g H mu [] W (leave M.length (.ok (.rt d) M')) Q) : Q v H' := by
  rw [← hm] at h
  cases d with
  | p q =>
    obtain ⟨p1, p2⟩ := p
    exact h v H' mu l.cut ⟨p1.cut l, Rep.less (fun a z => by obtain ⟨t, rfl⟩ := l.pre; exact List.mem_append_left _ z) p2⟩
  | nw ps =>
    obtain ⟨p, vs, rfl, h0, h1, h2, h3, h4⟩ := p
    have sub : ∀ a, a ∈ mu ++ [p] → a ∈ mu' ++ [p] := fun a q => by
      obtain ⟨t, rfl⟩ := l.pre
      rcases List.mem_append.mp q with q | q
      · exact List.mem_append_left _ (List.mem_append_left _ q)
      · exact List.mem_append_right _ q
    have s4 := h4.less (e' := mu' ++ [p]) (fun _ q => q) h4.sub
    refine h _ H' mu l.cut ⟨p, vs, rfl, h0, fun z => h1 (by obtain ⟨t, rfl⟩ := l.pre; exact List.mem_append_left _ z), h2, h3.less sub, ?_⟩
    obtain ⟨t, rfl⟩ := l.pre
    have hl := h4.len
    rw [List.length_append] at hl
    refine ⟨?_, (List.nodup_append.mp h4.nd).1, fun a q => List.mem_append_left _ q, fun n mo q => ?_⟩
    · rw [List.length_take]; omega
    · have hn : n < mu.length := by
        have := (List.getElem?_eq_some_iff.mp q).1
        rw [List.length_take] at this; omega
      rw [List.getElem?_take_of_lt hn] at q
      obtain ⟨a, k1, k2⟩ := h4.obj n mo q
      rw [List.getElem?_append_left hn] at k1
      exact ⟨a, k1, k2.less sub⟩
  | loc n =>
    obtain ⟨p1, a, p2, rfl⟩ := p
    have h : PostO g H mu [] W (if n < mu.length then .ok (.loc n) (M'.take mu.length) else match M'[n]? with
      | some (.lst ps) => .ok (.nw ps) (M'.take mu.length)
      | some (.ins c fs) => .ok (.loc mu.length) (M'.take mu.length ++ [.ins c fs])
      | none => .no) Q := h
    obtain ⟨t, rfl⟩ := l.pre
    split at h
    · rename_i hn
      refine h _ H' mu l.cut ⟨p1.cut l, a, ?_, rfl⟩
      rw [List.getElem?_append_left hn] at p2
      exact p2
    · rename_i hn
      have hna := nodup_late p1.nd p2 (by omega)
      have ha0 : H a = none := by
        rcases l.new a (List.mem_of_getElem? p2) with z | z
        · exact absurd z hna
        · exact z
      split at h
      · rename_i ps e
        obtain ⟨b, k1, vs, k2, k3⟩ := p1.obj n _ e
        rw [p2] at k1; cases k1
        refine h _ H' mu l.cut ⟨a, vs, rfl, ha0, hna, k2, k3.less (fun b q => ?_), p1.cutx l (List.mem_of_getElem? p2) hna⟩
        rcases List.mem_append.mp q with q | q
        · exact List.mem_append_left _ q
        · rw [List.mem_singleton.mp q]; exact List.mem_of_getElem? p2
      · rename_i c fs e
        obtain ⟨b, k1, k2⟩ := p1.obj n _ e
        rw [p2] at k1; cases k1
        have sub : ∀ b, b ∈ mu ++ [a] → b ∈ mu ++ t := fun b q => by
          rcases List.mem_append.mp q with q | q
          · exact List.mem_append_left _ q
          · rw [List.mem_singleton.mp q]; exact List.mem_of_getElem? p2
        refine h _ H' (mu ++ [a]) (le_push l.cut ha0) ⟨(p1.cutx l (List.mem_of_getElem? p2) hna).push hna (k2.less sub), a, ?_, rfl⟩
        rw [List.getElem?_append_right (Nat.le_refl _), Nat.sub_self]
        rfl
      · exact h.elim
theorem slots_start {ds : List Ev.D} {vs : List V} (N : List Str) (r : RepDL g H mu ds vs) : SlOk g H mu (ds.map some ++ List.replicate (N.length - ds.length) none) (L2.start N vs) := by
  have hl := r.length
  unfold L2.start
  refine ⟨by simp [hl], fun i d h => ?_⟩
  have hi : i < ds.length := by
    by_cases z : i < ds.length
    · exact z
    · rw [List.getElem?_append_right (by simpa using z)] at h
      rw [List.getElem?_replicate] at h
      split at h <;> cases h
  rw [List.getElem?_append_left (by simpa using hi), List.getElem?_map] at h
  have hd : ds[i]? = some d := by
    cases e : ds[i]? with
    | none => rw [e] at h; cases h
    | some a => rw [e] at h; cases h; rfl
  have key : ∀ {ds : List Ev.D} {vs : List V} {i : Nat} {d : Ev.D}, RepDL g H mu ds vs → ds[i]? = some d → ∃ v, vs[i]? = some v ∧ RepD g H mu d v := by
    intro ds
    induction ds with
    | nil => intro vs i d _ h; simp at h
    | cons e r ih =>
      intro vs i d ⟨v, r', e1, h1, h2⟩ h
      subst e1
      cases i with
      | zero => simp at h; subst h; exact ⟨v, rfl, h1⟩
      | succ i =>
        obtain ⟨w, k1, k2⟩ := ih (i := i) h2 (by simpa using h)
        exact ⟨w, by simpa using k1, k2⟩
  obtain ⟨v, k1, k2⟩ := key r hd
  exact ⟨v, by rw [List.getElem?_append_left (by simp [hl]; omega), List.getElem?_map, k1]; rfl, k2⟩
end
section
variable {X : Cx} {x : Str} {e : Expr} {es : List Expr} {fs : EvA} {F : Fn} {n k : Nat} {p pos : Pos}
theorem call_of {g : Mg} {W : WX} {τ : L2.St} {H : Hp} {Q : VK} (h : tE g W (eCall n F fs) τ H Q) : tCallS (spOf g n F) (WE W) (tAr g W fs) τ H Q := by
  obtain ⟨σ, M, mu, s, st, h⟩ := h
  refine ⟨σ, M, mu, s, st, (PostA.bind h).mono fun vs H1 ⟨mu1, ds, M1, l1, st1, r1, h1⟩ => ?_⟩
  split at h1
  · rename_i hl
    refine ⟨ds, M1, mu1, hl, r1, st1, ?_⟩
    cases e : F ds M1 with
    | ok d M2 => rw [e] at h1; exact h1
    | er c m M2 => rw [e] at h1; exact h1
    | no => rw [e] at h1; exact h1
  · exact h1.elim
theorem pv_call (hF : FnG X.prog X.w X.K X.mg X.base k x n F) (hr : Room k X.A) (hg : Gl X x) (ha : PAv X (e :: es) fs) (hdb : (x == ("__debug__" : Str)) = false)
    (he : starEach (e :: es) X.env = (false, eval e X.env) :: starEach es X.env) (hpl : (backTo pos (starEach es X.env)).any (·.1) = false) : PEv X (.Call (.Name x p) (e :: es) [] pos) (eCall n F fs) := fun W tk => by
  obtain ⟨f, fd, ps, h1, h2, h3, h4⟩ := hF
  exact PE.imp (pe_callS h1 hr hg h2 h3 h4 (fun τ => L2N.passAt tk τ) (ha W tk) hdb he hpl) fun τ H Q h => call_of h
/-- f() -/
theorem pv_call0 (hF : FnG X.prog X.w X.K X.mg X.base k x 0 F) (hr : Room k X.A) (hg : Gl X x) (hdb : (x == ("__debug__" : Str)) = false) : PEv X (.Call (.Name x p) [] [] pos) (eCall 0 F aNil) := fun W tk => by
  obtain ⟨f, fd, ps, h1, h2, h3, h4⟩ := hF
  refine ⟨fun pins s τ H Q I h => ?_⟩
  have h := call_of h
  refine wpAny_Call_Name_kw (ld_glob I hg h2 ?_ hdb)
  refine PySem.W.callWith_K0 I.kIn h3 ?_
  obtain ⟨σ, M, mu, s, st, h⟩ := h
  exact run_fnS h1 hr h4 (L2N.passAt tk τ) I .nil (h [] H mu (Le.refl _ _) st rfl)
/-- a def, by its body -/
theorem fn_body {P : Program} {w : World} {K : PySem.W.Frag} {mg : Str → Option Value} {base : Heap} {k : Nat} {f : Addr} {name qual : Str} {params : Arguments} {body : List Stmt} {scope : Scope} {dV kV doc pm cdv ct oc : Value} {an od : Option Addr}
    {osl : Array (Option Value)} {N ps : List Str} {b : EvS} (lk : K.lookup f = some ⟨oc, od, .func (PySem.W.fnOf name qual params body scope dV kV doc pm an cdv ct), osl⟩) (hcd : PySem.W.codeIn K cdv qual = true) (S : FnScope N ps scope)
    (hbody : ∀ (A : Around) (outer : List Env) (s : Shared) (H : Hp) (E : XK), Room k (A.deeper (envOfC qual scope s.heap.objs.size f cdv)) → PSsv (cxOf (L2N.CX P w) P w K mg base N qual scope f cdv A outer s H E) body b) :
    FnOk P w K mg base (L2N.CX P w) (k + 1) f (PySem.W.fnOf name qual params body scope dV kV doc pm an cdv ct) ps (spOf ⟨mg, K⟩ ps.length (fnB N.length b)) := by
  refine fn_of lk hcd S (fun vs H Q E ⟨ds, M, mu, hl, r, _⟩ => by rw [r.length, hl]) fun A outer s H vs Q E hr ⟨ds, M, mu, hl, r, st, h⟩ => ?_
  refine ⟨_, hbody A outer s H E hr (fun cls d _ H => E cls d H) (L2N.takes_of rfl rfl rfl rfl), ?_⟩
  refine ⟨ds.map some ++ List.replicate (N.length - ds.length) none, M, mu, slots_start N r, st, ?_⟩
  have hm := st.len
  unfold fnB at h
  cases e : b (ds.map some ++ List.replicate (N.length - ds.length) none) M with
  | ok fl M' =>
    rw [e] at h
    cases fl with
    | nx σ' => exact fun τ' H' mu' l s st' => leave_rt (d := .p .non) hm l ⟨st', by show Rep _ _ _ _ _; unfold Rep; rfl⟩ h
    | rt d => exact fun v H' mu' l p => leave_rt hm l p h
    | bk _ => exact h.elim
    | ct _ => exact h.elim
  | er c n σ' M' =>
    rw [e] at h
    intro cls dd τ' H' mu' l s st' x
    refine h cls dd H' mu l.cut ?_ x
    rw [← hm]
    exact st'.cut l
  | no => rw [e] at h; exact h.elim
end
end Ev

set_option Elab.async false
set_option linter.all false
set_option maxRecDepth 100000
set_option maxHeartbeats 4000000
/-! Core7: targets, iterators, for, while, comprehensions. -/
namespace Ev
open PySem PySem.Spec PyProof.Rows L2

/-! ### targets -/
inductive Tg where
  | nm (i : Nat) | tu (ts : List Tg)
mutual
def tgA : Tg → P → Fr → Option Fr
  | .nm i, p, σ => some (σ.set i (some (.p p)))
  | .tu ts, .tup ps, σ => if ps.length = ts.length then tgL ts ps σ else none
  | .tu _, _, _ => none
def tgL : List Tg → List P → Fr → Option Fr
  | [], [], σ => some σ
  | t :: ts, p :: ps, σ => match tgA t p σ with
    | some σ1 => tgL ts ps σ1
    | none => none
  | _, _, _ => none
end
mutual
def gT (K : PySem.W.Frag) : Tg → TG
  | .nm i => gName i
  | .tu ts => gTup K ts.length (gTs K ts)
def gTs (K : PySem.W.Frag) : List Tg → TGs
  | [] => gNil
  | t :: ts => gCons (gT K t) (gTs K ts)
end
mutual
def tgS : Tg → List Nat
  | .nm i => [i]
  | .tu ts => tgSs ts
def tgSs : List Tg → List Nat
  | [] => []
  | t :: ts => tgS t ++ tgSs ts
end
theorem wipe_set {τ : L2.St} {i : Nat} {v : Option V} : ∀ {vs : List Nat}, i ∈ vs → wipe (τ.set i v) vs = wipe τ vs
  | a :: vs, h => by
    unfold wipe
    by_cases hi : i ∈ vs
    · rw [wipe_set hi]
    · have e : a = i := by
        rcases List.mem_cons.mp h with z | z
        · exact z.symm
        · exact absurd z hi
      subst e
      have key : ∀ {vs : List Nat} {τ : L2.St}, a ∉ vs → wipe (τ.set a v) vs = (wipe τ vs).set a v := by
        intro vs
        induction vs with
        | nil => intro τ _; rfl
        | cons b r ih =>
          intro τ h
          have h1 : a ≠ b := fun z => h (by rw [z]; exact List.mem_cons_self)
          have h2 : a ∉ r := fun z => h (List.mem_cons_of_mem _ z)
          unfold wipe
          rw [ih h2, List.set_comm _ _ h1]
      rw [key hi, List.set_set]
section
variable {g : Mg} {K : PySem.W.Frag} {H : Hp} {mu : List Addr}
mutual
theorem gT_ok : ∀ {t : Tg} {p : P} {v : V} {σ σ1 : Fr} {τ : L2.St} {Q : L2.St → Hp → Prop}, Rep g H mu p v → SlOk g H mu σ τ → tgA t p σ = some σ1 →
    (∀ τ1, SlOk g H mu σ1 τ1 → (∀ vs, (∀ i ∈ tgS t, i ∈ vs) → wipe τ1 vs = wipe τ vs) → Q τ1 H) → gT K t v τ H Q
  | .nm i, p, v, σ, σ1, τ, Q, r, s, e, q => by
    unfold tgA at e
    cases e
    unfold gT
    exact q _ (s.set i (d := .p p) r) fun vs h => wipe_set (h i (by unfold tgS; simp))
  | .tu ts, .tup ps, v, σ, σ1, τ, Q, r, s, e, q => by
    unfold tgA at e
    split at e
    · rename_i hl
      unfold gT
      unfold Rep at r
      obtain ⟨a, vs, rfl, _, h1, h2⟩ := r
      refine ⟨a, vs, rfl, .of h1, by rw [h2.length, hl], gTs_ok h2 s e fun τ1 s1 h => q τ1 s1 fun vs hv => h vs fun i hi => hv i (by unfold tgS; exact hi)⟩
    · cases e
  | .tu _, .non, _, _, _, _, _, _, _, e, _ => by unfold tgA at e; cases e
  | .tu _, .bl _, _, _, _, _, _, _, _, e, _ => by unfold tgA at e; cases e
  | .tu _, .int _, _, _, _, _, _, _, _, e, _ => by unfold tgA at e; cases e
  | .tu _, .str _, _, _, _, _, _, _, _, e, _ => by unfold tgA at e; cases e
  | .tu _, .lst _, _, _, _, _, _, _, _, e, _ => by unfold tgA at e; cases e
  | .tu _, .fn _, _, _, _, _, _, _, _, e, _ => by unfold tgA at e; cases e
  | .tu _, .scr _, _, _, _, _, _, _, _, e, _ => by unfold tgA at e; cases e
theorem gTs_ok : ∀ {ts : List Tg} {ps : List P} {vs : List V} {σ σ1 : Fr} {τ : L2.St} {Q : L2.St → Hp → Prop}, RepL g H mu ps vs → SlOk g H mu σ τ → tgL ts ps σ = some σ1 →
    (∀ τ1, SlOk g H mu σ1 τ1 → (∀ vs, (∀ i ∈ tgSs ts, i ∈ vs) → wipe τ1 vs = wipe τ vs) → Q τ1 H) → gTs K ts vs τ H Q
  | [], [], vs, σ, σ1, τ, Q, r, s, e, q => by
    unfold tgL at e
    cases e
    unfold gTs
    exact ⟨r.nil_inv, q τ s fun _ _ => rfl⟩
  | t :: ts, p :: ps, vs, σ, σ1, τ, Q, r, s, e, q => by
    unfold tgL at e
    split at e
    · rename_i σ2 e1
      obtain ⟨v, r', rfl, h1, h2⟩ := r.cons_inv
      unfold gTs
      refine ⟨v, r', rfl, gT_ok h1 s e1 fun τ1 s1 w1 => gTs_ok h2 s1 e fun τ2 s2 w2 => q τ2 s2 fun vs hv => ?_⟩
      rw [w2 vs fun i hi => hv i (by unfold tgSs; exact List.mem_append_right _ hi), w1 vs fun i hi => hv i (by unfold tgSs; exact List.mem_append_left _ hi)]
    · cases e
  | [], _ :: _, _, _, _, _, _, _, _, e, _ => by unfold tgL at e; cases e
  | _ :: _, [], _, _, _, _, _, _, _, e, _ => by unfold tgL at e; cases e
end
end
def PGv (X : Cx) (e : Expr) (t : Tg) : Prop := PG X e (gT X.K t)
def PGsv (X : Cx) (e : List Expr) (t : List Tg) : Prop := PGs X e (gTs X.K t)
section
variable {X : Cx} {e : Expr} {es : List Expr} {t : Tg} {ts : List Tg} {pos : Pos}
theorem pgv_name {i : Nat} {x : Str} (hN : X.N.Nodup) (hi : X.N[i]? = some x) (hx : Loc X.env.scope x) (hf : X.fn x = true ∨ X.env.scope.names.lookup x = some .local) : PGv X (.Name x pos) (.nm i) := by
  unfold PGv gT
  exact pg_name hN hi hx hf
theorem pgsv_nil : PGsv X [] [] := by unfold PGsv gTs; exact pgs_nil
theorem pgsv_cons (h1 : PGv X e t) (h2 : PGsv X es ts) (hs : (assignEach (e :: es) X.env).map (·.2) = assign e X.env :: (assignEach es X.env).map (·.2)) : PGsv X (e :: es) (t :: ts) := by
  unfold PGsv gTs
  exact pgs_cons h1 h2 hs
theorem pgv_tup {k : Nat} (hc : X.calm = true) (h : PGsv X es ts) (hn : (assignEach es X.env).length = ts.length) (hst : (assignEach es X.env).findIdx? (·.1) = none) : PGv X (.Tuple es k pos) (.tu ts) := by
  unfold PGv gT
  exact pg_tup hc h hn hst
end
/-- a, b = e -/
def sUnp (t : Tg) (f : EvD) : EvS := fun σ M => (f σ M).toS σ fun d M1 => match d with
  | .p p => (match tgA t p σ with
    | some σ1 => .ok (.nx σ1) M1
    | none => .no)
  | _ => .no
theorem psv_unp {X : Cx} {tg e : Expr} {t : Tg} {f : EvD} {pos : Pos} (he : PEv X e f) (hg : PGv X tg t) (hs : swapsWithSole [tg] e pos.line X.env = pure false) (hw : swappedStores [tg] e X.env = pure none)
    (h1 : (assignEach [tg] X.env).map (·.2) = [assign tg X.env]) : PSv X (.Assign [tg] e pos) (sUnp t f) := fun W tk =>
  PS.imp (ps_asg (he W tk) hg hs hw h1) fun D τ H ⟨σ, M, mu, s, st, h⟩ => by
    refine ⟨σ, M, mu, s, st, (PostO.bindS s h).mono fun v H1 ⟨mu1, d, M1, l1, st1, r1, h1⟩ => ?_⟩
    try dsimp only at h1
    split at h1
    · split at h1
      · rename_i e1
        exact gT_ok r1 (s.mono l1) e1 fun τ1 s1 _ => h1 τ1 H1 mu1 (Le.refl _ _) s1 st1
      · exact h1.elim
    · exact h1.elim

/-! ### what is walked -/
abbrev EvI := Fr → Sto → Out (List P)
/-- J gives the items ps, as long as what is lasting lasts -/
def ItIs (g : Mg) (J : It) (ps : List P) (H : Hp) (mu : List Addr) : Prop :=
  ∀ H2 mu2, Le H mu H2 mu2 → (∀ T, H2 T = none → T ∉ mu2) → (∀ i, i < ps.length → J.go i H2) ∧ J.stop ps.length H2 ∧
    ∀ i x H3, i < ps.length → J.yld i H2 x H3 → (H3 = H2 ∨ ∃ T o, H2 T = none ∧ H3 = upd H2 T o) ∧ ∀ p, ps[i]? = some p → (∀ a u, H2 a = some u → H3 a = some u) → Rep g H3 mu2 p x
def PostI (g : Mg) (H : Hp) (mu : List Addr) (τ : L2.St) (W : WX) (o : Out (List P)) (R : It → Hp → Prop) : Prop :=
  match o with
  | .ok ps M' => ∀ J H' mu', Le H mu H' mu' → StoOk g H' mu' mu' M' → ItIs g J ps H' mu' → R J H'
  | .er c n M' => ∀ cls dd H' mu', Le H mu H' mu' → StoOk g H' mu' mu' M' → ExcR g c n cls dd H' → W cls dd τ H'
  | .no => False
def tI (g : Mg) (W : WX) (f : EvI) : TI := fun τ H R => ∃ σ M mu, SlOk g H mu σ τ ∧ StoOk g H mu mu M ∧ PostI g H mu τ W (f σ M) R
def PIv (X : Cx) (tg e : Expr) (f : EvI) : Prop := ∀ W, L2N.Takes X W → PI X tg e (tI X.g W f)
theorem PI.imp {X : Cx} {tg e : Expr} {t t' : TI} (h : PI X tg e t) (i : ∀ τ H Q, t' τ H Q → t τ H Q) : PI X tg e t' := ⟨fun pins s σ H Q I q => h.run pins s σ H Q I (i σ H Q q)⟩
def chars (s : Str) : List P := s.cps.toList.map fun c => .str ⟨#[c]⟩
def iOf (f : EvD) : EvI := fun σ M => (f σ M).bind fun d M1 => match d with
  | .p (.lst ps) => .ok ps M1
  | .p (.tup ps) => .ok ps M1
  | .p (.str s) => .ok (chars s) M1
  | .nw ps => .ok ps M1
  | _ => .no
section
variable {g : Mg} {H H' : Hp} {mu mu' : List Addr} {τ : L2.St} {W : WX} {R : It → Hp → Prop}
theorem PostI.shift {o : Out (List P)} (l : Le H mu H' mu') (h : PostI g H mu τ W o R) : PostI g H' mu' τ W o R := by
  cases o with
  | ok d M => exact fun J H2 mu2 l2 p => h J H2 mu2 (l.trans l2) p
  | er c n M => exact fun cls dd H2 mu2 l2 s x => h cls dd H2 mu2 (l.trans l2) s x
  | no => exact h
theorem PostO.bindI {o : Out Ev.D} {k : Ev.D → Sto → Out (List P)} (h : PostI g H mu τ W (o.bind k) R) : PostO g H mu τ W o (Then g H mu fun d M' H' mu' => PostI g H' mu' τ W (k d M') R) := by
  cases o with
  | ok d M => exact fun v H2 mu2 l2 p => ⟨mu2, d, M, l2, p.val.1, p.val.2, PostI.shift l2 h⟩
  | er c n M => exact h
  | no => exact h.elim
theorem PostA.bindI {o : Out (List Ev.D)} {k : List Ev.D → Sto → Out (List P)} (h : PostI g H mu τ W (o.bind k) R) : PostA g H mu τ W o (fun vs H' => ∃ mu' ds M', Le H mu H' mu' ∧ StoOk g H' mu' mu' M' ∧ RepDL g H' mu' ds vs ∧ PostI g H' mu' τ W (k ds M') R) := by
  cases o with
  | ok ds M => exact fun vs H2 mu2 l2 s r => ⟨mu2, ds, M, l2, s, r, PostI.shift l2 h⟩
  | er c n M => exact h
  | no => exact h.elim
theorem itis_list {K : PySem.W.Frag} {a : Addr} {vs : List V} {ps : List P} (hn : a ∉ mu) (h : H a = some (.lst vs)) (r : RepL g H mu ps vs) : ItIs g (Itl K a) ps H mu := fun H2 mu2 l _ => by
  have h2 : SqL K H2 a vs := .of (l.keep a _ hn h)
  have hl := r.length
  have r2 := r.mono l
  refine ⟨fun i hi => ⟨vs, vs[i]'(by omega), h2, by simp⟩, ⟨vs, h2, by omega⟩, fun i x H3 hi y => ⟨.inl y.1, fun p hp k => ?_⟩⟩
  obtain ⟨v, e1, e2⟩ := r2.get hp
  have := y.2 vs h2
  rw [e1] at this
  cases this
  rw [y.1]; exact e2
theorem itis_tup {K : PySem.W.Frag} {a : Addr} {vs : List V} {ps : List P} (hn : a ∉ mu) (h : H a = some (.tup vs)) (r : RepL g H mu ps vs) : ItIs g (Itt K a) ps H mu := fun H2 mu2 l _ => by
  have h2 : SqT K H2 a vs := .of (l.keep a _ hn h)
  have hl := r.length
  have r2 := r.mono l
  refine ⟨fun i hi => ⟨vs, vs[i]'(by omega), h2, by simp⟩, ⟨vs, h2, by omega⟩, fun i x H3 hi y => ⟨.inl y.1, fun p hp k => ?_⟩⟩
  obtain ⟨v, e1, e2⟩ := r2.get hp
  have := y.2 vs h2
  rw [e1] at this
  cases this
  rw [y.1]; exact e2
theorem itis_str {s : Str} : ItIs g (Its s) (chars s) H mu := fun H2 mu2 l _ => by
  have hl : (chars s).length = s.cps.size := by simp [chars]
  refine ⟨fun i hi => by rw [hl] at hi; exact hi, by rw [hl]; exact Nat.le_refl _, fun i x H3 hi y => ⟨.inl y.1, fun p hp k => ?_⟩⟩
  obtain ⟨_, c, e1, e2⟩ := y
  subst e2
  simp only [chars, List.getElem?_map, Array.getElem?_toList, e1, Option.map_some, Option.some.injEq] at hp
  subst hp
  unfold Rep; rfl
def rgs (lo : Int) (n : Nat) : List P := (List.range n).map fun i : Nat => P.int (lo + (i : Int))
theorem itis_range {lo : Int} {n : Nat} : ItIs g (Itr lo n) (rgs lo n) H mu := fun H2 mu2 l _ => by
  have hl : (rgs lo n).length = n := by simp [rgs]
  refine ⟨fun i hi => by rw [hl] at hi; exact hi, by rw [hl]; exact Nat.le_refl _, fun i x H3 hi y => ⟨.inl y.1, fun p hp k => ?_⟩⟩
  obtain ⟨_, e2⟩ := y
  subst e2
  rw [hl] at hi
  have e : (rgs lo n)[i]? = some (P.int (lo + (i : Int))) := by
    unfold rgs
    rw [List.getElem?_map, List.getElem?_range hi]; rfl
  rw [e] at hp
  cases hp
  unfold Rep; rfl
end
section
variable {X : Cx} {e e2 tg : Expr} {es : List Expr} {f : EvD} {fs : EvA} {p pos : Pos}
/-- an expression of data is walked -/
theorem piv_of (he : PEv X e f) : PIv X tg e (iOf f) := fun W tk => by
  refine ⟨fun pins s τ H R I h => ?_⟩
  -- by the kind of what the expression gives: the three walks are one term
  have key : tE X.g W f τ H (fun x H1 => (∃ a, x = .ref a ∧ (∃ xs, SqL X.K H1 a xs) ∧ R (Itl X.K a) H1) ∨ (∃ a, x = .ref a ∧ (∃ xs, SqT X.K H1 a xs) ∧ R (Itt X.K a) H1) ∨ ∃ z, x = .str z ∧ R (Its z) H1) := by
    obtain ⟨σ, M, mu, s, st, h⟩ := h
    refine ⟨σ, M, mu, s, st, (PostO.bindI h).mono fun v H1 ⟨mu1, d, M1, l1, st1, r1, h1⟩ => ?_⟩
    try dsimp only at h1
    split at h1
    · rename_i ps
      have r1 : Rep _ _ _ _ _ := r1
      unfold Rep at r1
      obtain ⟨a, vs, rfl, k1, k2, k3⟩ := r1
      exact .inl ⟨a, rfl, ⟨vs, .of k2⟩, h1 _ H1 mu1 (Le.refl _ _) st1 (itis_list k1 k2 k3)⟩
    · rename_i ps
      have r1 : Rep _ _ _ _ _ := r1
      unfold Rep at r1
      obtain ⟨a, vs, rfl, k1, k2, k3⟩ := r1
      exact .inr (.inl ⟨a, rfl, ⟨vs, .of k2⟩, h1 _ H1 mu1 (Le.refl _ _) st1 (itis_tup k1 k2 k3)⟩)
    · rename_i z
      have r1 : Rep _ _ _ _ _ := r1
      unfold Rep at r1
      exact .inr (.inr ⟨z, r1, h1 _ H1 mu1 (Le.refl _ _) st1 itis_str⟩)
    · rename_i ps
      have r1 : Rep _ _ _ _ _ := r1
      unfold Rep at r1
      obtain ⟨a, vs, rfl, k1, k2, k3⟩ := r1
      exact .inl ⟨a, rfl, ⟨vs, .of k2⟩, h1 _ H1 mu1 (Le.refl _ _) st1 (itis_list k1 k2 k3)⟩
    · exact h1.elim
  -- each walk's own proof, behind the expression
  refine thn ((he W tk).run pins s τ H _ I key) fun v s1 ⟨x, H1, I1, r1, q1⟩ => ?_
  rcases q1 with ⟨a, rfl, ⟨xs, hq⟩, q⟩ | ⟨a, rfl, ⟨xs, hq⟩, q⟩ | ⟨z, rfl, q⟩
  · cases r1
    obtain ⟨its, rv, p, hz⟩ := I1.list hq
    refine wpAny_pyIter_list p.isList ?_
    refine ⟨s1.heap.objs.size, [s1.heap.objs.size], _, _, H1, rfl, I1.kept (t' := s1.toks) fun b o e => Heap.get?_push_of_some _ e, turn_list a _, ⟨_, Heap.get?_push_size _ rfl, rfl, rfl⟩, fun b hb => ?_, q⟩
    have e : b = s1.heap.objs.size := by simpa using hb
    subst e
    exact I1.fpOk (Nat.le_refl _) (I1.hok.fresh (Nat.le_refl _))
  · cases r1
    obtain ⟨its, rv, p, hz⟩ := I1.tuple hq
    refine wpAny_pyIter_tuple (show s1.heap.IsTuple a its.toArray from p) ?_
    refine ⟨s1.heap.objs.size, [s1.heap.objs.size], _, _, H1, rfl, I1.kept (t' := s1.toks) fun b o e => Heap.get?_push_of_some _ e, turn_tuple a _, ⟨_, Heap.get?_push_size _ rfl, rfl, rfl⟩, fun b hb => ?_, q⟩
    have e : b = s1.heap.objs.size := by simpa using hb
    subst e
    exact I1.fpOk (Nat.le_refl _) (I1.hok.fresh (Nat.le_refl _))
  · obtain ⟨t, rfl⟩ := r1
    cases ha : z.cps.all (· < 128)
    · exact wpAny_pyIter_wide ha (pi_one (tk := s1.toks) I1 _ (turn_str _ z t "str_iterator" (.inr rfl)) ⟨_, Heap.get?_push_size _ rfl, rfl, rfl⟩ q)
    · exact wpAny_pyIter_ascii ha (pi_one (tk := s1.toks) I1 _ (turn_str _ z t "str_ascii_iterator" (.inl rfl)) ⟨_, Heap.get?_push_size _ rfl, rfl, rfl⟩ q)
def rgOk (j : Int) : Bool := decide (-(2 ^ 62) ≤ j) && decide (j < 2 ^ 62)
theorem rgOk_ok {j : Int} (h : rgOk j = true) : -(2 ^ 62) ≤ j ∧ j < 2 ^ 62 := by
  unfold rgOk at h
  rw [Bool.and_eq_true, decide_eq_true_eq, decide_eq_true_eq] at h
  exact h
def iRange1 (fs : EvA) : EvI := fun σ M => (fs σ M).bind fun ds M1 => match ds with
  | [.p (.int j)] => if rgOk j = true then .ok (rgs 0 j.toNat) M1 else .no
  | _ => .no
def iRange2 (fs : EvA) : EvI := fun σ M => (fs σ M).bind fun ds M1 => match ds with
  | [.p (.int i), .p (.int j)] => if rgOk i = true ∧ rgOk j = true then .ok (rgs i (j - i).toNat) M1 else .no
  | _ => .no
theorem rep_int_dl {g : Mg} {H : Hp} {mu : List Addr} {i : Int} {v : V} (r : RepD g H mu (.p (.int i)) v) : v = .int i := by
  have z : Rep _ _ _ _ _ := r
  unfold Rep at z; exact z
theorem piv_range1 (hg : Gl X "range") (hm : X.mg "range" = none) (ha : PAv X [e] fs) (hs : starEach [e] X.env = [(false, eval e X.env)]) : PIv X tg (.Call (.Name "range" p) [e] [] pos) (iRange1 fs) := fun W tk => by
  refine PI.imp (pi_range1 hg hm (ha W tk) hs) fun τ H R ⟨σ, M, mu, s, st, h⟩ => ⟨σ, M, mu, s, st, ?_⟩
  refine PostA.mono (PostA.bindI h) fun vs H1 ⟨mu1, ds, M1, l1, st1, r1, h1⟩ => ?_
  try dsimp only at h1
  split at h1
  · rename_i j
    split at h1
    · rename_i hr
      obtain ⟨v, r, rfl, k1, k2⟩ := r1
      rw [show r = [] from k2, rep_int_dl k1]
      exact ⟨j, rfl, (rgOk_ok hr).1, (rgOk_ok hr).2, h1 _ H1 mu1 (Le.refl _ _) st1 itis_range⟩
    · exact h1.elim
  · exact h1.elim
theorem piv_range2 (hg : Gl X "range") (hm : X.mg "range" = none) (ha : PAv X [e, e2] fs) (hs : starEach [e, e2] X.env = [(false, eval e X.env), (false, eval e2 X.env)]) (hs2 : starEach [e2] X.env = [(false, eval e2 X.env)]) : PIv X tg (.Call (.Name "range" p) [e, e2] [] pos) (iRange2 fs) := fun W tk => by
  refine PI.imp (pi_range2 hg hm (ha W tk) hs hs2) fun τ H R ⟨σ, M, mu, s, st, h⟩ => ⟨σ, M, mu, s, st, ?_⟩
  refine PostA.mono (PostA.bindI h) fun vs H1 ⟨mu1, ds, M1, l1, st1, r1, h1⟩ => ?_
  try dsimp only at h1
  split at h1
  · rename_i i j
    split at h1
    · rename_i hr
      obtain ⟨v, r, rfl, k1, w, r', k3, k2, k4⟩ := r1
      subst k3
      rw [show r' = [] from k4, rep_int_dl k1, rep_int_dl k2]
      exact ⟨i, j, rfl, ⟨(rgOk_ok hr.1).1, (rgOk_ok hr.1).2, (rgOk_ok hr.2).1, (rgOk_ok hr.2).2⟩, h1 _ H1 mu1 (Le.refl _ _) st1 itis_range⟩
    · exact h1.elim
  · exact h1.elim
end

/-! ### for -/
def forL (t : Tg) (body : EvS) : List P → Fr → Sto → OutS
  | [], σ, M => .ok (.nx σ) M
  | p :: ps, σ, M => match tgA t p σ with
    | none => .no
    | some σ1 => match body σ1 M with
      | .ok (.nx σ2) M2 => forL t body ps σ2 M2
      | .ok (.ct σ2) M2 => forL t body ps σ2 M2
      | .ok (.bk σ2) M2 => .ok (.nx σ2) M2
      | .ok (.rt d) M2 => .ok (.rt d) M2
      | .er c n σ2 M2 => .er c n σ2 M2
      | .no => .no
def sFor (t : Tg) (fi : EvI) (body : EvS) : EvS := fun σ M => (fi σ M).toS σ fun ps M1 => forL t body ps σ M1
theorem PostI.bindS {g : Mg} {H : Hp} {mu : List Addr} {τ : L2.St} {W : WX} {D : Ends} {σ : Fr} {o : Out (List P)} {k : List P → Sto → OutS} (s : SlOk g H mu σ τ) (h : PostS g H mu W (o.toS σ k) D) :
    PostI g H mu τ W o (fun J H' => ∃ mu' ps M', Le H mu H' mu' ∧ StoOk g H' mu' mu' M' ∧ ItIs g J ps H' mu' ∧ PostS g H' mu' W (k ps M') D) := by
  cases o with
  | ok ds M => exact fun J H2 mu2 l2 st r => ⟨mu2, ds, M, l2, st, r, PostS.shift l2 h⟩
  | er c n M => exact fun cls dd H2 mu2 l2 st x => h cls dd τ H2 mu2 l2 (s.mono l2) st x
  | no => exact h.elim
theorem ItIs.shift {g : Mg} {J : It} {ps : List P} {H H' : Hp} {mu mu' : List Addr} (i : ItIs g J ps H mu) (l : Le H mu H' mu') : ItIs g J ps H' mu' := fun H2 mu2 l2 => i H2 mu2 (l.trans l2)
theorem le_yld {H2 H3 : Hp} {mu : List Addr} (h : H3 = H2 ∨ ∃ T o, H2 T = none ∧ H3 = upd H2 T o) : Le H2 mu H3 mu := by
  rcases h with rfl | ⟨T, o, h, rfl⟩
  · exact Le.refl _ _
  · exact Le.upd h
theorem sto_yld {g : Mg} {H2 H3 : Hp} {mu : List Addr} {M : Sto} (h : H3 = H2 ∨ ∃ T o, H2 T = none ∧ H3 = upd H2 T o) (st : StoOk g H2 mu mu M) : StoOk g H3 mu mu M := by
  rcases h with rfl | ⟨T, o, h, rfl⟩
  · exact st
  · exact st.upd h
theorem has_yld {H2 H3 : Hp} (h : H3 = H2 ∨ ∃ T o, H2 T = none ∧ H3 = upd H2 T o) : ∀ a u, H2 a = some u → H3 a = some u := by
  rcases h with rfl | ⟨T, o, h, rfl⟩
  · exact fun _ _ q => q
  · exact fun a u q => by rw [upd_ne (ne_of_none q h)]; exact q
section
variable {X : Cx} {tg iter : Expr} {t : Tg} {fi : EvI} {fb : EvS} {body : List Stmt} {pos : Pos}
theorem psv_for (hp : PassesOwn (model X.prog X.w) X.A X.env X.xe) (hc : X.calm = true) (hi : PIv X tg iter fi) (hg : PGv X tg t) (hb : PSsv X body fb) (hs : ∀ x, foldedSetIterable iter X.env x = pure x) :
    PSv X (.For tg iter body [] pos) (sFor t fi fb) := fun W tk =>
  PS.imp (ps_for hp hc (hi W tk) hg (hb W tk) hs) fun D τ H ⟨σ, M, mu, s, st, h⟩ => by
    refine ⟨σ, M, mu, s, st, ?_⟩
    have z := PostI.bindS s h
    revert z
    cases fi σ M with
    | er c n M => exact fun z => z
    | no => exact fun z => z
    | ok ps0 M0 =>
      intro z J H1 mu1 l1 st1 it1
      obtain ⟨mu1', ps, M1, l1', st1', it, hk⟩ := z J H1 mu1 l1 st1 it1
      clear z
      refine ⟨fun i m τ' H' => ∃ σ' M' mu' qs, m = qs.length ∧ i ≤ ps.length ∧ ps.drop i = qs ∧ Le H1 mu1' H' mu' ∧ SlOk X.g H' mu' σ' τ' ∧ StoOk X.g H' mu' mu' M' ∧ PostS X.g H' mu' W (forL t fb qs σ' M') D, ⟨ps.length, σ, M1, mu1', ps, rfl, Nat.zero_le _, rfl, Le.refl _ _, s.mono l1', st1', hk⟩, ?_⟩
      rintro i m τ' H' ⟨σ', M', mu', qs, rfl, hi, hq, l', s', st', h'⟩
      obtain ⟨go, stop, yld⟩ := it H' mu' l' fun T => st'.fresh
      cases qs with
      | nil =>
        have hi2 : i = ps.length := by
          have := congrArg List.length hq
          simp at this; omega
        subst hi2
        exact .inl ⟨stop, h' τ' H' mu' (Le.refl _ _) s' st'⟩
      | cons p qs =>
        have hlt : i < ps.length := by
          by_cases z : i < ps.length
          · exact z
          · rw [List.drop_eq_nil_of_le (by omega)] at hq; cases hq
        have hpi : ps[i]? = some p := by
          rw [List.drop_eq_getElem_cons hlt] at hq
          cases hq
          simp [hlt]
        have hq2 : ps.drop (i + 1) = qs := by
          rw [List.drop_eq_getElem_cons hlt] at hq
          cases hq; rfl
        refine .inr ⟨go i hlt, fun τ2 H2 => ∃ σ2 M2 mu2, Le H1 mu1' H2 mu2 ∧ SlOk X.g H2 mu2 σ2 τ2 ∧ StoOk X.g H2 mu2 mu2 M2 ∧ PostS X.g H2 mu2 W (forL t fb qs σ2 M2) D, ?_, ?_⟩
        · rintro τ2 H2 ⟨σ2, M2, mu2, k1, k2, k3, k4⟩
          exact ⟨qs.length, by simp, σ2, M2, mu2, qs, rfl, hlt, hq2, k1, k2, k3, k4⟩
        · intro x H3 y
          obtain ⟨y1, y2⟩ := yld i x H3 hlt y
          have rx := y2 p hpi (has_yld y1)
          have ly := le_yld (mu := mu') y1
          unfold forL at h'
          have h' := PostS.shift ly h'
          cases e : tgA t p σ' with
          | none => rw [e] at h'; exact h'.elim
          | some σ1 =>
            rw [e] at h'
            dsimp only at h'
            refine gT_ok rx (s'.mono ly) e fun τ1 s1 _ => ⟨σ1, M', mu', s1, sto_yld y1 st', ?_⟩
            have l3 := l'.trans ly
            cases eb : fb σ1 M' with
            | ok fl M2 =>
              rw [eb] at h'
              cases fl with
              | nx σ2 => exact fun τ2 H2 mu2 l2 s2 st2 => ⟨σ2, M2, mu2, l3.trans l2, s2, st2, PostS.shift l2 h'⟩
              | ct σ2 => exact fun τ2 H2 mu2 l2 s2 st2 => ⟨σ2, M2, mu2, l3.trans l2, s2, st2, PostS.shift l2 h'⟩
              | bk σ2 => exact h'
              | rt d => exact h'
            | er c n σ2 M2 => rw [eb] at h'; exact h'
            | no => rw [eb] at h'; exact h'
end

/-! ### while -/
def whL (c : EvB) (body : EvS) : Nat → Fr → Sto → OutS
  | 0, _, _ => .no
  | n + 1, σ, M => match c σ M with
    | .ok true M1 => match body σ M1 with
      | .ok (.nx σ2) M2 => whL c body n σ2 M2
      | .ok (.ct σ2) M2 => whL c body n σ2 M2
      | .ok (.bk σ2) M2 => .ok (.nx σ2) M2
      | .ok (.rt d) M2 => .ok (.rt d) M2
      | .er c n σ2 M2 => .er c n σ2 M2
      | .no => .no
    | .ok false M1 => .ok (.nx σ) M1
    | .er c n M1 => .er c n σ M1
    | .no => .no
theorem whL_succ {c : EvB} {body : EvS} : ∀ {n : Nat} {σ : Fr} {M : Sto}, whL c body n σ M ≠ .no → whL c body (n + 1) σ M = whL c body n σ M
  | 0, _, _, h => absurd rfl h
  | n + 1, σ, M, h => by
    have ih : ∀ σ M, whL c body n σ M ≠ .no → whL c body (n + 1) σ M = whL c body n σ M := fun σ M => whL_succ
    rw [show whL c body (n + 1 + 1) σ M = (match c σ M with
      | .ok true M1 => match body σ M1 with
        | .ok (.nx σ2) M2 => whL c body (n + 1) σ2 M2
        | .ok (.ct σ2) M2 => whL c body (n + 1) σ2 M2
        | .ok (.bk σ2) M2 => .ok (.nx σ2) M2
        | .ok (.rt d) M2 => .ok (.rt d) M2
        | .er c n σ2 M2 => .er c n σ2 M2
        | .no => .no
      | .ok false M1 => .ok (.nx σ) M1
      | .er c n M1 => .er c n σ M1
      | .no => .no) from rfl]
    rw [show whL c body (n + 1) σ M = (match c σ M with
      | .ok true M1 => match body σ M1 with
        | .ok (.nx σ2) M2 => whL c body n σ2 M2
        | .ok (.ct σ2) M2 => whL c body n σ2 M2
        | .ok (.bk σ2) M2 => .ok (.nx σ2) M2
        | .ok (.rt d) M2 => .ok (.rt d) M2
        | .er c n σ2 M2 => .er c n σ2 M2
        | .no => .no
      | .ok false M1 => .ok (.nx σ) M1
      | .er c n M1 => .er c n σ M1
      | .no => .no) from rfl] at h ⊢
    cases e : c σ M with
    | ok b M1 =>
      rw [e] at h
      cases b with
      | true =>
        dsimp only at h ⊢
        cases e2 : body σ M1 with
        | ok f M2 =>
          rw [e2] at h
          cases f with
          | nx σ2 => exact ih _ _ h
          | ct σ2 => exact ih _ _ h
          | _ => rfl
        | _ => rfl
      | false => rfl
    | _ => rfl
theorem whL_le {c : EvB} {body : EvS} {n m : Nat} {σ : Fr} {M : Sto} (h : whL c body n σ M ≠ .no) (l : n ≤ m) : whL c body m σ M = whL c body n σ M := by
  induction m with
  | zero => rw [Nat.le_zero.mp l]
  | succ m ih =>
    rcases Nat.lt_or_ge n (m + 1) with z | z
    · have e := ih (by omega)
      rw [whL_succ (by rw [e]; exact h), e]
    · rw [show n = m + 1 by omega]
/-- at most 1000 turns are told -/
def sWhile (c : EvB) (body : EvS) : EvS := whL c body 1000
theorem sWhile_eq {c : EvB} {body : EvS} {n : Nat} {σ : Fr} {M : Sto} (h : whL c body n σ M ≠ .no) (l : n ≤ 1000) : sWhile c body σ M = whL c body n σ M := whL_le h l
section
variable {X : Cx} {c : Expr} {fc : EvB} {fb : EvS} {body : List Stmt} {pos : Pos}
theorem psv_while (hp : PassesOwn (model X.prog X.w) X.A X.env X.xe) (hc : PTv X c fc) (hb : PSsv X body fb) : PSv X (.While c body [] pos) (sWhile fc fb) := fun W tk =>
  PS.imp (ps_while hp (hc W tk) (hb W tk)) fun D τ H ⟨σ, M, mu, s, st, h⟩ => by
    obtain ⟨n, en⟩ : ∃ n, sWhile fc fb σ M = whL fc fb n σ M := ⟨1000, rfl⟩
    rw [en] at h
    refine ⟨fun m τ' H' => ∃ σ' M' mu', SlOk X.g H' mu' σ' τ' ∧ StoOk X.g H' mu' mu' M' ∧ PostS X.g H' mu' W (whL fc fb m σ' M') D, ⟨n, σ, M, mu, s, st, h⟩, ?_⟩
    rintro m τ' H' ⟨σ', M', mu', s', st', h'⟩
    cases m with
    | zero => exact h'.elim
    | succ m =>
      unfold whL at h'
      refine ⟨σ', M', mu', s', st', ?_⟩
      cases ec : fc σ' M' with
      | ok b M1 =>
        rw [ec] at h'
        intro H1 mu1 l1 st1
        have s1 := s'.mono l1
        cases b with
        | true =>
          refine iteT ⟨fun τ2 H2 => ∃ σ2 M2 mu2, SlOk X.g H2 mu2 σ2 τ2 ∧ StoOk X.g H2 mu2 mu2 M2 ∧ PostS X.g H2 mu2 W (whL fc fb m σ2 M2) D, fun τ2 H2 k => ⟨m, Nat.lt_succ_self _, k⟩, σ', M1, mu1, s1, st1, ?_⟩
          have h' := PostS.shift l1 h'
          dsimp only at h'
          cases eb : fb σ' M1 with
          | ok fl M2 =>
            rw [eb] at h'
            cases fl with
            | nx σ2 => exact fun τ2 H2 mu2 l2 s2 st2 => ⟨σ2, M2, mu2, s2, st2, PostS.shift l2 h'⟩
            | ct σ2 => exact fun τ2 H2 mu2 l2 s2 st2 => ⟨σ2, M2, mu2, s2, st2, PostS.shift l2 h'⟩
            | bk σ2 => exact h'
            | rt d => exact h'
          | er c n σ2 M2 => rw [eb] at h'; exact h'
          | no => rw [eb] at h'; exact h'
        | false => exact iteF (h' τ' H1 mu1 l1 s1 st1)
      | er c n M1 => rw [ec] at h'; exact fun cls dd H2 mu2 l2 st x => h' cls dd τ' H2 mu2 l2 (s'.mono l2) st x
      | no => rw [ec] at h'; exact h'
end

/-! ### comprehensions -/
def wipeF (σ : Fr) : List Nat → Fr
  | [] => σ
  | v :: vs => (wipeF σ vs).set v none
theorem wipe_ok {g : Mg} {H : Hp} {mu : List Addr} {σ : Fr} {τ : L2.St} (s : SlOk g H mu σ τ) : ∀ vs : List Nat, SlOk g H mu (wipeF σ vs) (wipe τ vs)
  | [] => s
  | v :: vs => (wipe_ok s vs).none v
/-- an item of the new list is the object L of the store -/
def addL (L : Nat) (q : P) (M : Sto) : Out Unit := match M[L]? with
  | some (.lst acc) => if acc.length < lim then .ok () (M.set L (.lst (acc ++ [q]))) else .no
  | _ => .no
def lcL (t : Tg) (ok : Bool) (ifs : EvB) (el : EvD) (L : Nat) (σ : Fr) : List P → Sto → Out D
  | [], M => match M[L]? with
    | some (.lst acc) => if M.length = L + 1 then .ok (.nw acc) (M.take L) else .no
    | _ => .no
  | p :: ps, M => match ok, tgA t p σ with
    | true, some σ1 => (match ifs σ1 M with
      | .ok true M1 => (match el σ1 M1 with
        | .ok d M2 => (match d.val with
          | .p q => (match addL L q M2 with
            | .ok _ M3 => lcL t ok ifs el L σ ps M3
            | _ => .no)
          | _ => .no)
        | _ => .no)
      | .ok false M1 => lcL t ok ifs el L σ ps M1
      | _ => .no)
    | _, _ => .no
def eLc (t : Tg) (vs : List Nat) (fi : EvI) (ifs : EvB) (el : EvD) : EvD := fun σ M => (fi σ M).bind fun ps M1 => lcL t ((tgS t).all fun i => vs.contains i) ifs el M1.length (wipeF σ vs) ps (M1 ++ [.lst []])
def bYes : EvB := fun _ M => .ok true M
end Ev

set_option Elab.async false
set_option linter.all false
set_option maxRecDepth 100000
set_option maxHeartbeats 4000000
/-! Core8: comprehensions; objects of the store that change. -/
namespace Ev
open PySem PySem.Spec PyProof.Rows L2

section
variable {g : Mg} {H H' : Hp} {mu mu' : List Addr} {M : Sto}
/-- an object of the store written -/
theorem Le.wr {a : Addr} {o : HO} (ha : a ∈ mu) : Le H mu (L2.upd H a o) mu :=
  ⟨List.prefix_refl _, fun b u hb h => by rw [upd_ne (fun z => hb (by rw [z]; exact ha))]; exact h, fun b h => .inl h, fun b h => by
    by_cases z : b = a
    · rw [z, upd_same] at h; cases h
    · rw [upd_ne z] at h; exact h⟩
theorem StoOk.setO {n : Nat} {a : Addr} {ps' : List P} {vs' : List V} (st : StoOk g H mu mu M) (hm : mu[n]? = some a) (r : RepL g H mu ps' vs') : StoOk g (L2.upd H a (.lst vs')) mu mu (M.set n (.lst ps')) := by
  have ha : a ∈ mu := List.mem_of_getElem? hm
  have l : Le H mu (L2.upd H a (.lst vs')) mu := Le.wr ha
  refine ⟨by rw [List.length_set]; exact st.len, st.nd, st.sub, fun j mo q => ?_⟩
  by_cases hj : n = j
  · subst hj
    have hn : n < M.length := by rw [← st.len]; exact (List.getElem?_eq_some_iff.mp hm).1
    rw [List.getElem?_set_self hn] at q
    cases q
    exact ⟨a, hm, vs', upd_same, r.mono l⟩
  · rw [List.getElem?_set_ne hj] at q
    obtain ⟨b, h1, h2⟩ := st.obj j mo q
    have hb : b ≠ a := fun z => by
      rw [z] at h1
      obtain ⟨l1, e1⟩ := List.getElem?_eq_some_iff.mp h1
      obtain ⟨l2, e2⟩ := List.getElem?_eq_some_iff.mp hm
      have pw := List.pairwise_iff_getElem.mp st.nd
      rcases Nat.lt_trichotomy n j with z | z | z
      · exact pw n j l2 l1 z (e2.trans e1.symm)
      · exact hj z
      · exact pw j n l1 l2 z (e1.trans e2.symm)
    refine ⟨b, h1, ?_⟩
    cases mo with
    | lst ps =>
      obtain ⟨vs, k1, k2⟩ := h2
      exact ⟨vs, by rw [upd_ne hb]; exact k1, k2.mono l⟩
    | ins c fs =>
      obtain ⟨C, dx, vs, k0, k1, k2⟩ := h2
      exact ⟨C, dx, vs, k0, by rw [upd_ne hb]; exact k1, k2.mono l⟩
end

theorem wipe_wipe (τ : L2.St) : ∀ vs : List Nat, wipe (wipe τ vs) vs = wipe τ vs
  | [] => rfl
  | v :: vs => by
    show wipe ((wipe τ vs).set v none) (v :: vs) = (wipe τ vs).set v none
    rw [wipe_set List.mem_cons_self]
    show (wipe (wipe τ vs) vs).set v none = _
    rw [wipe_wipe τ vs]
def PTsv (X : Cx) (ifs : List Expr) (f : EvB) : Prop := ∀ W, L2N.Takes X W → PTs X ifs (tTr X.g W f)
abbrev W0 : WX := fun _ _ _ _ => False
theorem takes0 {X : Cx} : L2N.Takes X W0 := fun u s' ⟨_, _, _, _, _, _, _, _, _, _, _, _, _, _, _, _, w⟩ => w.elim
theorem ptsv_nil {X : Cx} : PTsv X [] bYes := fun W tk => ⟨fun pins s σ H Q I ⟨σ', M, mu, sl, st, h⟩ => pts_nil.run pins s σ H Q I (h H mu (Le.refl _ _) st)⟩
theorem ptsv_one {X : Cx} {c : Expr} {f : EvB} (h : PTv X c f) : PTsv X [c] f := fun W tk => pts_one (h W tk)
theorem PostI.bindO {g : Mg} {H : Hp} {mu : List Addr} {τ : L2.St} {W : WX} {Q : VK} {o : Out (List P)} {k : List P → Sto → Out D} (h : PostO g H mu τ W (o.bind k) Q) :
    PostI g H mu τ W o (fun J H' => ∃ mu' ps M', Le H mu H' mu' ∧ StoOk g H' mu' mu' M' ∧ ItIs g J ps H' mu' ∧ PostO g H' mu' τ W (k ps M') Q) := by
  cases o with
  | ok ds M => exact fun J H2 mu2 l2 st r => ⟨mu2, ds, M, l2, st, r, PostO.shift l2 h⟩
  | er c n M => exact h
  | no => exact h.elim
theorem lc_of {g : Mg} {W : WX} {τ : L2.St} {H : Hp} {Q : VK} {K : PySem.W.Frag} {t : Tg} {vs : List Nat} {fi : EvI} {fif : EvB} {fe : EvD} (h : tE g W (eLc t vs fi fif fe) τ H Q) :
    tLc (tI g W fi) (gT K t) (tTr g W0 fif) (tE g W0 fe) vs τ H Q := by
  obtain ⟨σ, M, mu, s, st, h⟩ := h
  refine ⟨σ, M, mu, s, st, ?_⟩
  have z := PostI.bindO h
  revert z
  cases fi σ M with
  | er c n M => exact fun z => z
  | no => exact fun z => z
  | ok ps0 M0 =>
    intro z J H1 mu1 l1 st1 it1
    obtain ⟨mu1', ps, M1, l1', st1', it, hk⟩ := z J H1 mu1 l1 st1 it1
    clear z
    intro D hD
    have hL := st1'.len
    have hDn : D ∉ mu1' := st1'.fresh hD
    have hlx : Le H1 mu1' (upd H1 D (.lst [])) (mu1' ++ [D]) := Le.updx hD
    have stx : StoOk g (upd H1 D (.lst [])) (mu1' ++ [D]) (mu1' ++ [D]) (M1 ++ [.lst []]) := (st1'.updx hD).push hDn ⟨[], upd_same, RepL.nil⟩
    refine ⟨fun i m H' => ∃ M' mu' qs, m = qs.length ∧ i ≤ ps.length ∧ ps.drop i = qs ∧ Le (upd H1 D (.lst [])) (mu1' ++ [D]) H' mu' ∧ StoOk g H' mu' mu' M' ∧
      PostO g H1 mu1' τ W (lcL t ((tgS t).all fun i => vs.contains i) fif fe M1.length (wipeF σ vs) qs M') Q, ⟨ps.length, M1 ++ [.lst []], mu1' ++ [D], ps, rfl, Nat.zero_le _, rfl, Le.refl _ _, stx, hk⟩, ?_⟩
    rintro i m H' ⟨M', mu', qs, rfl, hi, hq, l', st', h'⟩
    have lw := hlx.trans l'
    obtain ⟨go, stop, yld⟩ := it H' mu' lw fun T => st'.fresh
    have atD : ∀ {H5 mu5 M5 acc}, Le (upd H1 D (.lst [])) (mu1' ++ [D]) H5 mu5 → StoOk g H5 mu5 mu5 M5 → M5[M1.length]? = some (.lst acc) → mu5[M1.length]? = some D ∧ ∃ ws, H5 D = some (.lst ws) ∧ RepL g H5 mu5 acc ws := by
      intro H5 mu5 M5 acc l5 s5 e5
      obtain ⟨t5, rfl⟩ := l5.pre
      obtain ⟨a, k1, ws, k2, k3⟩ := s5.obj _ _ e5
      have e6 : ((mu1' ++ [D]) ++ t5)[M1.length]? = some D := by
        rw [← hL, List.append_assoc, List.getElem?_append_right (Nat.le_refl _), Nat.sub_self]; rfl
      rw [e6] at k1
      cases k1
      exact ⟨e6, ws, k2, k3⟩
    cases qs with
    | nil =>
      have hi2 : i = ps.length := by
        have := congrArg List.length hq
        simp at this; omega
      subst hi2
      refine .inl ⟨stop, ?_⟩
      unfold lcL at h'
      split at h'
      · rename_i acc e
        split at h'
        · rename_i hlen
          obtain ⟨k0, ws, k1, k2⟩ := atD l' st' e
          have hmu : mu' = mu1' ++ [D] := by
            obtain ⟨t5, rfl⟩ := l'.pre
            have := st'.len
            rw [hlen, List.length_append, List.length_append] at this
            have : t5 = [] := List.length_eq_zero_iff.mp (by simp at this; omega)
            rw [this, List.append_nil]
          subst hmu
          refine h' _ H' mu1' lw.cut ⟨D, ws, rfl, hD, hDn, k1, k2, ?_⟩
          rw [← hL]
          exact st'.cutx lw (by simp) hDn
        · exact h'.elim
      · exact h'.elim
    | cons p qs =>
      have hlt : i < ps.length := by
        by_cases z : i < ps.length
        · exact z
        · rw [List.drop_eq_nil_of_le (by omega)] at hq; cases hq
      have hpi : ps[i]? = some p := by
        rw [List.drop_eq_getElem_cons hlt] at hq
        cases hq
        simp [hlt]
      have hq2 : ps.drop (i + 1) = qs := by
        rw [List.drop_eq_getElem_cons hlt] at hq
        cases hq; rfl
      refine .inr ⟨go i hlt, fun H2 => ∃ M2 mu2, Le (upd H1 D (.lst [])) (mu1' ++ [D]) H2 mu2 ∧ StoOk g H2 mu2 mu2 M2 ∧ PostO g H1 mu1' τ W (lcL t ((tgS t).all fun i => vs.contains i) fif fe M1.length (wipeF σ vs) qs M2) Q, ?_, ?_⟩
      · rintro H2 ⟨M2, mu2, k1, k2, k3⟩
        exact ⟨qs.length, by simp, M2, mu2, qs, rfl, hlt, hq2, k1, k2, k3⟩
      · intro x H3 y
        obtain ⟨y1, y2⟩ := yld i x H3 hlt y
        have rx := y2 p hpi (has_yld y1)
        have ly := le_yld (mu := mu') y1
        have l3 := l'.trans ly
        have s3 : SlOk g H3 mu' (wipeF σ vs) (wipe τ vs) := (wipe_ok s vs).mono ((l1'.trans lw).trans ly)
        unfold lcL at h'
        split at h'
        · rename_i σ1 hok e
          refine gT_ok rx s3 e fun τ1 s1 hw => ⟨?_, ?_⟩
          · rw [hw vs fun i hi => ?_, wipe_wipe]
            have := List.all_eq_true.mp hok i hi
            simpa using this
          · refine ⟨σ1, M', mu', s1, sto_yld y1 st', ?_⟩
            cases e1 : fif σ1 M' with
            | ok b M4 =>
              rw [e1] at h'
              intro H4 mu4 l4 st4
              have s4 := s1.mono l4
              have l4' := l3.trans l4
              cases b with
              | false => exact iteF ⟨M4, mu4, l4', st4, h'⟩
              | true =>
                refine iteT ⟨σ1, M4, mu4, s4, st4, ?_⟩
                dsimp only at h'
                cases e2 : fe σ1 M4 with
                | ok d M5 =>
                  rw [e2] at h'
                  intro v H5 mu5 l5 p5
                  obtain ⟨st5, r5⟩ := p5.val
                  have l5' := l4'.trans l5
                  dsimp only at h'
                  split at h'
                  · rename_i q eq
                    rw [eq] at r5
                    have r5 : Rep g H5 mu5 q v := r5
                    unfold addL at h'
                    split at h'
                    · rename_i M6 e6
                      split at e6
                      · rename_i acc e7
                        split at e6
                        · rename_i hacc
                          cases e6
                          obtain ⟨k0, ws, k1, k2⟩ := atD l5' st5 e7
                          refine ⟨ws, k1, lim_lt (by rw [k2.length]; exact hacc), _, mu5, l5'.trans (Le.wr (List.mem_of_getElem? k0)), st5.setO k0 (k2.append (RepL.one r5)), h'⟩
                        · cases e6
                      · cases e6
                    · exact h'.elim
                  · exact h'.elim
                | er c n M5 => rw [e2] at h'; exact h'.elim
                | no => rw [e2] at h'; exact h'.elim
            | er c n M4 => rw [e1] at h'; exact h'.elim
            | no => rw [e1] at h'; exact h'.elim
        · exact h'.elim
section
variable {X : Cx} {elt tg iter : Expr} {ifs : List Expr} {scope : Scope} {own : List (Str × Nat)} {pos spos : Pos} {t : Tg} {fi : EvI} {fif : EvB} {fe : EvD}
theorem pv_lc (hc : X.calm = true) (hN : X.N.Nodup) (hi : PIv X tg iter fi) (ok : BlkOk X.N X.env.scope scope own)
    (hg : ∀ (s : Shared) (H : Hp) (C : Addr) (cl : List (Str × Addr)) (fp : List Addr), PGv (X.blk s H scope (compEnvC scope cl C X.env) fp) tg t)
    (ht : ∀ (s : Shared) (H : Hp) (C : Addr) (cl : List (Str × Addr)) (fp : List Addr), PTsv (X.blk s H scope (compEnvC scope cl C X.env) fp) ifs fif)
    (he : ∀ (s : Shared) (H : Hp) (C : Addr) (cl : List (Str × Addr)) (fp : List Addr), PEv (X.blk s H scope (compEnvC scope cl C X.env) fp) elt fe) (hs : ∀ x, foldedSetIterable iter X.env x = pure x) :
    PEv X (.ListComp elt [⟨tg, iter, ifs, 0⟩] scope pos) (eLc t (own.map (·.2)) fi fif fe) := fun W tk =>
  PE.imp (pe_lc (g := gT X.K t) hc hN (hi W tk) ok (fun s H C cl fp => hg s H C cl fp) (fun s H C cl fp => ht s H C cl fp W0 takes0) (fun s H C cl fp => he s H C cl fp W0 takes0) hs) fun τ H Q h => lc_of h
theorem psv_setLc {i : Nat} {y : Str} {py : Pos} (hc : X.calm = true) (hN : X.N.Nodup) (hy : X.N[i]? = some y) (hyl : X.env.scope.names.lookup y = some .local)
    (hsw : swapsWith (.ListComp elt [⟨tg, iter, ifs, 0⟩] scope pos) (some (.Name y py)) spos.line X.env = pure true) (hi : PIv X tg iter fi) (ok : BlkOk X.N X.env.scope scope own)
    (hg : ∀ (s : Shared) (H : Hp) (C : Addr) (cl : List (Str × Addr)) (fp : List Addr), PGv (X.blk s H scope (compEnvC scope cl C X.env) fp) tg t)
    (ht : ∀ (s : Shared) (H : Hp) (C : Addr) (cl : List (Str × Addr)) (fp : List Addr), PTsv (X.blk s H scope (compEnvC scope cl C X.env) fp) ifs fif)
    (he : ∀ (s : Shared) (H : Hp) (C : Addr) (cl : List (Str × Addr)) (fp : List Addr), PEv (X.blk s H scope (compEnvC scope cl C X.env) fp) elt fe) (hs : ∀ x, foldedSetIterable iter X.env x = pure x) :
    PSv X (.Assign [.Name y py] (.ListComp elt [⟨tg, iter, ifs, 0⟩] scope pos) spos) (sSet i (eLc t (own.map (·.2)) fi fif fe)) := fun W tk =>
  PS.imp (ps_setLc (g := gT X.K t) hc hN hy hyl hsw (hi W tk) ok (fun s H C cl fp => hg s H C cl fp) (fun s H C cl fp => ht s H C cl fp W0 takes0) (fun s H C cl fp => he s H C cl fp W0 takes0) hs) fun D τ H h => by
    obtain ⟨σ, M, mu, s, st, h⟩ := h
    exact lc_of ⟨σ, M, mu, s, st, (PostO.bindS s h).mono fun v H1 ⟨mu1, d, M1, l1, st1, r1, h1⟩ => h1 _ H1 mu1 (Le.refl _ _) ((s.mono l1).set i r1) st1⟩
theorem psv_setLcM {i : Nat} {y : Str} {py : Pos} (hc : X.calm = true) (hN : X.N.Nodup) (hy : X.N[i]? = some y) (hyl : X.env.scope.names.lookup y = some .local)
    (hsw : swapsWith (.ListComp elt [⟨tg, iter, ifs, 0⟩] scope pos) (some (.Name y py)) spos.line X.env = pure true) (hi : PIv X tg iter fi) (ok : BlkOk X.N X.env.scope scope own)
    (hg : ∀ (s : Shared) (H : Hp) (C : Addr) (cl : List (Str × Addr)) (fp : List Addr), PGv (X.blk s H scope (compEnvC scope cl C X.env) fp) tg t)
    (ht : ∀ (s : Shared) (H : Hp) (C : Addr) (cl : List (Str × Addr)) (fp : List Addr), PTsv (X.blk s H scope (compEnvC scope cl C X.env) fp) ifs fif)
    (he : ∀ (s : Shared) (H : Hp) (C : Addr) (cl : List (Str × Addr)) (fp : List Addr), PEv (X.blk s H scope (compEnvC scope cl C X.env) fp) elt fe) (hs : ∀ x, foldedSetIterable iter X.env x = pure x) :
    PSv X (.Assign [.Name y py] (.ListComp elt [⟨tg, iter, ifs, 0⟩] scope pos) spos) (sSetM i (eLc t (own.map (·.2)) fi fif fe)) := fun W tk =>
  PS.imp (ps_setLc (g := gT X.K t) hc hN hy hyl hsw (hi W tk) ok (fun s H C cl fp => hg s H C cl fp) (fun s H C cl fp => ht s H C cl fp W0 takes0) (fun s H C cl fp => he s H C cl fp W0 takes0) hs) fun D τ H h => by
    have h2 := setM_of h
    exact lc_of h2
end

/-! ### lists that change -/
def appK (n : Nat) : List D → Sto → Out D
  | [.p q], M => (match M[n]? with
    | some (.lst ps) => if ps.length < lim then .ok (.p .non) (M.set n (.lst (ps ++ [q]))) else .no
    | _ => .no)
  | _, _ => .no
def extK (n : Nat) : List D → Sto → Out D
  | [.p (.lst qs)], M => (match M[n]? with
    | some (.lst ps) => if ps.length + qs.length ≤ lim then .ok (.p .non) (M.set n (.lst (ps ++ qs))) else .no
    | _ => .no)
  | _, _ => .no
/-- x.append(y), x.extend(y) -/
def eLm (K : Nat → List D → Sto → Out D) (fa : EvD) (fs : EvA) : EvD := fun σ M => (fa σ M).bind fun d M1 => match d with
  | .loc n => (match M1[n]? with
    | some (.lst _) => (fs σ M1).bind fun ds M2 => K n ds M2
    | _ => .no)
  | _ => .no
/-- what a list's method does to the store's list n -/
def LmO (K : Nat → List D → Sto → Out D) (r : V → List V → Hp → VK → Prop) : Prop :=
  ∀ (g : Mg) (H : Hp) (mu : List Addr) (M : Sto) (n : Nat) (a : Addr) (ds : List D) (vs : List V) (τ : L2.St) (W : WX) (Q : VK), StoOk g H mu mu M → mu[n]? = some a → RepDL g H mu ds vs → PostO g H mu τ W (K n ds M) Q → r (.ref a) vs H Q
theorem lm_app : LmO appK rAppend := fun g H mu M n a ds vs τ W Q st hm r h => by
  unfold appK at h
  split at h
  · rename_i q
    split at h
    · rename_i ps e
      split at h
      · rename_i hl
        obtain ⟨v, r', rfl, k1, k2⟩ := r
        rw [show r' = [] from k2]
        obtain ⟨b, e1, ws, e2, e3⟩ := st.obj n _ e
        rw [hm] at e1; cases e1
        refine ⟨a, ws, v, rfl, rfl, e2, lim_lt (by rw [e3.length]; exact hl), ?_⟩
        exact h .non _ mu (Le.wr (List.mem_of_getElem? hm)) ⟨st.setO hm (e3.append (RepL.one k1)), by show Rep _ _ _ _ _; unfold Rep; rfl⟩
      · exact h.elim
    · exact h.elim
  · exact h.elim
theorem lm_ext : LmO extK rExtend := fun g H mu M n a ds vs τ W Q st hm r h => by
  unfold extK at h
  split at h
  · rename_i qs
    split at h
    · rename_i ps e
      split at h
      · rename_i hl
        obtain ⟨v, r', rfl, k1, k2⟩ := r
        rw [show r' = [] from k2]
        obtain ⟨b, e1, ws, e2, e3⟩ := st.obj n _ e
        rw [hm] at e1; cases e1
        have k1 : Rep _ _ _ _ _ := k1
        unfold Rep at k1
        obtain ⟨c, zs, rfl, k3, k4, k5⟩ := k1
        refine ⟨a, c, ws, zs, rfl, rfl, e2, k4, lim_le (by rw [e3.length, k5.length]; exact hl), ?_⟩
        exact h .non _ mu (Le.wr (List.mem_of_getElem? hm)) ⟨st.setO hm (e3.append k5), by show Rep _ _ _ _ _; unfold Rep; rfl⟩
      · exact h.elim
    · exact h.elim
  · exact h.elim
section
variable {X : Cx} {o e : Expr} {es : List Expr} {fa : EvD} {fs : EvA} {K : Nat → List D → Sto → Out D} {r : V → List V → Hp → VK → Prop} {pos apos cpos : Pos}
theorem lm_of {g : Mg} {W : WX} {τ : L2.St} {H : Hp} {Q : VK} {F : PySem.W.Frag} (hK : LmO K r) (h : tE g W (eLm K fa fs) τ H Q) : tBM F "list" r (tE g W fa) (tAr g W fs) τ H Q := by
  obtain ⟨σ, M, mu, s, st, h⟩ := h
  refine ⟨σ, M, mu, s, st, (PostO.bind h).mono fun x H1 ⟨mu1, d, M1, l1, st1, r1, h1⟩ => ?_⟩
  try dsimp only at h1
  split at h1
  · rename_i n
    split at h1
    · rename_i ps e
      obtain ⟨a, k1, rfl⟩ := r1
      obtain ⟨b, e1, vs, e2, e3⟩ := st1.obj n _ e
      rw [k1] at e1; cases e1
      refine ⟨ty_of (g := g) (e := mu1) (p := .lst ps) (.inr ⟨ps, a, vs, rfl, rfl, e2, e3⟩) rfl, σ, M1, mu1, s.mono l1, st1, ?_⟩
      refine PostA.mono (PostA.bind h1) fun us H2 ⟨mu2, ds, M2, l2, st2, r2, h2⟩ => ?_
      refine hK g H2 mu2 M2 n a ds us τ W Q st2 ?_ r2 h2
      obtain ⟨t, rfl⟩ := l2.pre
      rw [List.getElem?_append_left (List.getElem?_eq_some_iff.mp k1).1]
      exact k1
    · exact h1.elim
  · exact h1.elim
theorem pv_lm {id : String} {name : Str} (pa : PlainAttrs "list") (slot : Slot "list" name id) (hty : typeOf (.builtin id) = pure (.type "method_descriptor")) (hm : MtM X id r) (hK : LmO K r) (ho : PEv X o fa) (ha : PAv X (e :: es) fs)
    (hbase : attributeBase o name X.env (eval o X.env) = eval o X.env)
    (hfew : ((backTo cpos (starEach (e :: es) X.env)).all (fun x => !x.1) && (backToKw cpos (keywordEach [] X.env)).all (fun x => x.1.isSome)
      && decide ((e :: es).length + ([] : List Keyword).length + (if ([] : List Keyword).isEmpty then 0 else 1) < 30)) = true)
    (hline : (apos.endLine == cpos.line) = true) (hs : starEach (e :: es) X.env = (false, eval e X.env) :: starEach es X.env) (hplain : (backTo cpos (starEach es X.env)).any (·.1) = false) :
    PEv X (.Call (.Attribute o name apos) (e :: es) [] cpos) (eLm K fa fs) := fun W tk => PE.imp (pe_bm pa slot hty hm (ho W tk) (ha W tk) hbase hfew hline hs hplain) fun τ H Q h => lm_of hK h
/-- x[i] = e -/
def sSub (fv fo fi : EvD) : EvS := fun σ M => (fv σ M).toS σ fun d M1 => (fo σ M1).toS σ fun dl M2 => (fi σ M2).toS σ fun di M3 => match d.val, dl, di with
  | .p q, .loc n, .p (.int k) => (match M3[n]? with
    | some (.lst ps) => (match ixN ps.length k with
      | some j => .ok (.nx σ) (M3.set n (.lst (ps.set j q)))
      | none => .no)
    | _ => .no)
  | _, _, _ => .no
theorem psv_sub {oe ie : Expr} {tpos : Pos} {fv fo fi : EvD} (he : PEv X e fv) (ho : PEv X oe fo) (hi : PEv X ie fi) (hx : ∀ v, assign (.Subscript oe ie tpos) X.env v = (do
      let ov ← holding [v] (eval oe X.env)
      let iv ← holding [v, ov] (eval ie X.env)
      standAt tpos
      holding [v, ov, iv] (setItem ov iv v)
      release [v, ov, iv] [])) (hs : swapsWithSole [.Subscript oe ie tpos] e pos.line X.env = pure false) (hw : swappedStores [.Subscript oe ie tpos] e X.env = pure none)
    (h1 : (assignEach [.Subscript oe ie tpos] X.env).map (·.2) = [assign (.Subscript oe ie tpos) X.env]) : PSv X (.Assign [.Subscript oe ie tpos] e pos) (sSub fv fo fi) := fun W tk =>
  PS.imp (ps_asg (he W tk) (pg_sub (ho W tk) (hi W tk) set_list hx) hs hw h1) fun D τ H ⟨σ, M, mu, s, st, h⟩ => by
    refine ⟨σ, M, mu, s, st, (PostO.bindS s h).mono fun x H1 ⟨mu1, d, M1, l1, st1, r1, h1⟩ => ?_⟩
    have s1 := s.mono l1
    refine ⟨σ, M1, mu1, s1, st1, (PostO.bindS s1 h1).mono fun y H2 ⟨mu2, dl, M2, l2, st2, r2, h2⟩ => ?_⟩
    have s2 := s1.mono l2
    refine ⟨σ, M2, mu2, s2, st2, (PostO.bindS s2 h2).mono fun z H3 ⟨mu3, di, M3, l3, st3, r3, h3⟩ => ?_⟩
    try dsimp only at h3
    have r1 := r1.mono (l2.trans l3)
    have r2 := r2.mono l3
    split at h3
    · have hv : ∀ {q}, d.val = .p q → Rep X.g H3 mu3 q x := fun {q} e => by rw [e] at r1; exact r1
      rename_i q n k e0 _ _
      have r1 : Rep X.g H3 mu3 q x := hv (by assumption)
      split at h3
      · rename_i ps e
        split at h3
        · rename_i j hj
          obtain ⟨a, k1, rfl⟩ := r2
          obtain ⟨b, e1, ws, e2, e3⟩ := st3.obj n _ e
          rw [k1] at e1; cases e1
          refine ⟨a, ws, k, j, rfl, rep_int_dl r3, e2, by rw [e3.length]; exact hj, ?_⟩
          exact h3 _ _ mu3 (Le.wr (List.mem_of_getElem? k1)) ((s2.mono l3).mono (Le.wr (List.mem_of_getElem? k1))) (st3.setO k1 (e3.set j r1))
        · exact h3.elim
      · exact h3.elim
    · exact h3.elim
/-- name op= e -/
def sAug (i : Nat) (o : P → P → Option D) (f : EvD) : EvS := fun σ M => match σ[i]? with
  | some (some dx) => (f σ M).toS σ fun d M1 => (op2 o dx d M1).toS σ fun r M2 => .ok (.nx (σ.set i (some r.val))) M2
  | _ => .no
theorem psv_aug {i : Nat} {x : Str} {op : Operator} {oo : P → P → Option D} {pos' : Pos} {f : EvD} (hN : X.N.Nodup) (hi : X.N[i]? = some x) (hx : Loc X.env.scope x) (he : PEv X e f) (ho : Op2 X (inplaceOp op) oo) (hf : X.fn x = true ∨ X.env.scope.names.lookup x = some .local) :
    PSv X (.AugAssign (.Name x pos') op e pos) (sAug i oo f) := fun W tk => PS.imp (ps_aug hN hi hx (he W tk) ho hf) fun D τ H ⟨σ, M, mu, s, st, h⟩ => by
  unfold sAug at h
  split at h
  · rename_i dx hdx
    obtain ⟨v, hv, rv⟩ := s.at_ i dx hdx
    refine ⟨v, hv, σ, M, mu, s, st, (PostO.bindS s h).mono fun y H1 ⟨mu1, d, M1, l1, st1, r1, h1⟩ => ?_⟩
    have s1 := s.mono l1
    try dsimp only at h1
    have h2 := PostO.bindS (τ := τ) s1 h1
    obtain ⟨p, q, r, e1, e2, e3, e4⟩ := op2_inv h2
    rw [e4] at h1
    refine ⟨mu1, M1, p, q, r, st1, (rv.mono l1).get st1 e1, r1.get st1 (by rw [get_val]; exact e2), e3, fun z H2 l2 p2 => ?_⟩
    exact h1 _ H2 mu1 l2 ((s1.mono l2).set i p2.val.2) p2.val.1
  · exact h.elim
end
end Ev

set_option Elab.async false
set_option linter.all false
set_option maxRecDepth 100000
set_option maxHeartbeats 4000000
/-! Core9: zip and enumerate of lists, tuples, texts. -/
namespace Ev
open PySem PySem.Spec PyProof.Rows L2

/-- what is walked -/
inductive Src where
  | l (a : Addr) (vs : List V) | t (a : Addr) (vs : List V) | s (x : Str)
def Src.len : Src → Nat
  | .l _ vs => vs.length
  | .t _ vs => vs.length
  | .s x => x.cps.size
def Src.at (i : Nat) : Src → Option V
  | .l _ vs => vs[i]?
  | .t _ vs => vs[i]?
  | .s x => x.cps[i]?.map fun c => .str ⟨#[c]⟩
def Src.ok (K : PySem.W.Frag) (H : Hp) : Src → Prop
  | .l a vs => SqL K H a vs
  | .t a vs => SqT K H a vs
  | .s _ => True
def Src.val : Src → V
  | .l a _ => .ref a
  | .t a _ => .ref a
  | .s x => .str x
def Src.ads : Src → List Addr
  | .l a _ => [a]
  | .t a _ => [a]
  | .s _ => []
/-- the iterator's object -/
def Src.it (v : Value) (it : Addr) (i : Nat) (h : Heap) : Src → Prop
  | .l a _ => h.IsListIter it a i
  | .t a _ => h.IsTupleIter it a i
  | .s x => ∃ t, v = .str x t ∧ h.IsStrIter it (strIterType x) x t i
theorem Src.it_at {v : Value} {it : Addr} {i : Nat} {h h' : Heap} : ∀ {s : Src}, s.it v it i h → (∀ o, h.get? it = some o → h'.get? it = some o) → s.it v it i h'
  | .l _ _, x, k => x.at k
  | .t _ _, x, k => x.at k
  | .s _, ⟨tk, e, x⟩, k => ⟨tk, e, let ⟨o, ho, r⟩ := x; ⟨o, k o ho, r⟩⟩
theorem Src.it_obj {v : Value} {it : Addr} {i : Nat} {h : Heap} : ∀ {s : Src}, s.it v it i h → ∃ o, h.get? it = some o ∧ ∀ v, o.data ≠ .cell v
  | .l _ _, ⟨o, e, c, d⟩ => ⟨o, e, fun v z => by rw [d] at z; cases z⟩
  | .t _ _, ⟨o, e, c, d⟩ => ⟨o, e, fun v z => by rw [d] at z; cases z⟩
  | .s _, ⟨tk, _, o, e, c, d⟩ => ⟨o, e, fun v z => by rw [d] at z; cases z⟩
section
variable {X : Cx} {pins : List (Addr × Obj)} {σ : L2.St} {H : Hp} {s : Shared}
theorem Src.draws {src : Src} {v : Value} {it : Addr} {A : Around} (hh : A.handled = none) (I : Inv X pins σ H s) (ok : src.ok X.K H) (r : RelV src.val v) (hne : ∀ a ∈ src.ads, a ≠ it) :
    ∃ (P : Nat → Value → Prop) (St : Nat → Heap → Prop), Draws X.prog X.w A it (it :: src.ads) src.len P St ∧ (∀ i, src.it v it i s.heap → St i s.heap) ∧ (∀ i h, St i h → src.it v it i h) ∧ ∀ i u, P i u → ∃ y, src.at i = some y ∧ RelV y u := by
  cases src with
  | l a vs =>
    obtain ⟨its, rv, p, _⟩ := I.list ok
    have D := Draws.list (prog := X.prog) (w := X.w) hh it a (hne a (by simp [Src.ads])) its.toArray
    have hl : its.toArray.size = vs.length := by have := rv.length; simp; omega
    rw [hl] at D
    refine ⟨_, _, D, fun i h => ⟨h, p.isList⟩, fun i h x => x.1, fun i u hu => ?_⟩
    have hu : its.toArray[i]? = some u := hu
    rw [List.getElem?_toArray] at hu
    cases e : vs[i]? with
    | none => rw [rv.none_of e] at hu; cases hu
    | some y =>
      obtain ⟨u', h1, h2⟩ := rv.get e
      rw [h1] at hu; cases hu
      exact ⟨y, e, h2⟩
  | t a vs =>
    obtain ⟨its, rv, p, _⟩ := I.tuple ok
    have D := Draws.tuple (prog := X.prog) (w := X.w) hh it a (hne a (by simp [Src.ads])) its.toArray
    have hl : its.toArray.size = vs.length := by have := rv.length; simp; omega
    rw [hl] at D
    refine ⟨_, _, D, fun i h => ⟨h, p⟩, fun i h x => x.1, fun i u hu => ?_⟩
    have hu : its.toArray[i]? = some u := hu
    rw [List.getElem?_toArray] at hu
    cases e : vs[i]? with
    | none => rw [rv.none_of e] at hu; cases hu
    | some y =>
      obtain ⟨u', h1, h2⟩ := rv.get e
      rw [h1] at hu; cases hu
      exact ⟨y, e, h2⟩
  | s x =>
    obtain ⟨tk, rfl⟩ := r
    refine ⟨_, _, Draws.text (prog := X.prog) (w := X.w) hh it x tk, fun i h => ?_, fun i h y => ⟨tk, rfl, y⟩, fun i u hu => ?_⟩
    · obtain ⟨tk', e, h⟩ := h
      cases e
      exact h
    · obtain ⟨c, u', e, rfl⟩ := hu
      exact ⟨.str ⟨#[c]⟩, by simp [Src.at, e], ⟨_, rfl⟩⟩
theorem Src.begins {src : Src} {v : Value} (I : Inv X pins σ H s) (ok : src.ok X.K H) (r : RelV src.val v) : ∃ (o : Obj) (B : Heap → Prop), Begins v o B ∧ B s.heap ∧ (∀ a ∈ src.ads, a < s.heap.objs.size) ∧ ∀ (h' : Heap) (it : Addr), h'.get? it = some o → src.it v it 0 h' := by
  cases src with
  | l a vs =>
    obtain ⟨its, rv, p, _⟩ := I.list ok
    cases r
    exact ⟨_, _, begins_list a its.toArray, p.isList, fun b hb => by rw [List.mem_singleton.mp hb]; exact p.lt, fun h' it e => ⟨_, e, rfl, rfl⟩⟩
  | t a vs =>
    obtain ⟨its, rv, p, _⟩ := I.tuple ok
    cases r
    exact ⟨_, _, begins_tuple a its.toArray, p, fun b hb => by rw [List.mem_singleton.mp hb]; obtain ⟨o, e, _⟩ := p; exact Heap.lt_size e, fun h' it e => ⟨_, e, rfl, rfl⟩⟩
  | s x =>
    obtain ⟨tk, rfl⟩ := r
    exact ⟨_, _, begins_text x tk, trivial, fun b hb => (nomatch hb), fun h' it e => ⟨tk, rfl, _, e, rfl, rfl⟩⟩
end

theorem sub5 {N c : Addr} (h : c ∈ [N + 4, N + 3, N, N + 1]) : c ∈ [N + 4, N + 2, N + 3, N, N + 1] := by
  simp at h ⊢
  rcases h with h | h | h | h <;> simp [h]
/-- zip of two -/
def Itz2 (K : PySem.W.Frag) (s1 s2 : Src) : It :=
  ⟨fun i H => s1.ok K H ∧ s2.ok K H ∧ i < s1.len ∧ i < s2.len, fun i H v H' => ∃ T x y, v = .ref T ∧ H T = none ∧ H' = upd H T (.tup [x, y]) ∧ s1.at i = some x ∧ s2.at i = some y,
    fun i H => s1.ok K H ∧ s2.ok K H ∧ i = min s1.len s2.len⟩
theorem turn_zip2 {P : Program} {w : World} {K : PySem.W.Frag} {elts : List Expr} {kk N : Nat} {tpos : Pos} {s1 s2 : Src} {v1 v2 : Value} (r1 : RelV s1.val v1) (r2 : RelV s2.val v2) (h1 : ∀ a ∈ s1.ads, a < N) (h2 : ∀ a ∈ s2.ads, a < N) :
    Turn P w K (.Tuple elts kk tpos) (Itz2 K s1 s2) [N + 4, N + 2, N + 3, N, N + 1] (N + 4)
      (fun i h => IsZip h (N + 4) (N + 2) (N + 3) .none ∧ IsTupOf2 h (N + 2) (.ref N) (.ref (N + 1)) ∧ (∃ x y, IsTupOf2 h (N + 3) x y) ∧ s1.it v1 N i h ∧ s2.it v2 (N + 1) i h) where
  mem := by simp
  obj := fun i h st c hc => by
    obtain ⟨hz, hTI, ⟨x, y, hTO⟩, i1, i2⟩ := st
    have e' : c = N + 4 ∨ c = N + 2 ∨ c = N + 3 ∨ c = N ∨ c = N + 1 := by simpa using hc
    rcases e' with q | q | q | q | q
    · rw [q]; exact ⟨_, hz, fun v q => nomatch q⟩
    · rw [q]; exact ⟨_, hTI, fun v q => nomatch q⟩
    · rw [q]; exact ⟨_, hTO, fun v q => nomatch q⟩
    · rw [q]; exact Src.it_obj i1
    · rw [q]; exact Src.it_obj i2
  keep := fun i h h' st k => by
    obtain ⟨hz, hTI, ⟨x, y, hTO⟩, i1, i2⟩ := st
    exact ⟨k (N + 4) (by simp) _ hz, k (N + 2) (by simp) _ hTI, ⟨x, y, k (N + 3) (by simp) _ hTO⟩, Src.it_at i1 fun o q => k N (by simp) o q, Src.it_at i2 fun o q => k (N + 1) (by simp) o q⟩
  item := by
    intro X hP hw hK hc i pins s σ H E I hf st hg
    subst hP hw hK
    obtain ⟨hz, hTI, hTO, i1, i2⟩ := st
    obtain ⟨o1, o2, l1, l2⟩ := hg
    obtain ⟨P1, St1, D1, a1, b1, c1⟩ := Src.draws (A := X.A.in1) (it := N) (I.ok.hd hc) I o1 r1 fun a ha => Nat.ne_of_lt (h1 a ha)
    obtain ⟨P2, St2, D2, a2, b2, c2⟩ := Src.draws (A := X.A.in1) (it := N + 1) (I.ok.hd hc) I o2 r2 fun a ha => Nat.ne_of_lt (Nat.lt_succ_of_lt (h2 a ha))
    have Wz := WalksT.zipD2 (zip_sep2 h1 h2) D1 D2
    have hzl : N + 4 < s.heap.objs.size := Heap.lt_size hz
    refine Wz.item i s _ _ (by omega) ⟨hz, hTI, hTO, a1 i i1, a2 i i2⟩ fun T vals h' tk hv hT hit mid keep => ?_
    refine ⟨_, rfl, Wz.go elts kk tpos i T _ _ _ mid fun h'' st'' keep2 => ?_⟩
    obtain ⟨x1, x2, q1, q2, rfl⟩ := hv
    obtain ⟨y1, e1, ry1⟩ := c1 i x1 q1
    obtain ⟨y2, e2, ry2⟩ := c2 i x2 q2
    have napart := Wz.apart i T _ mid
    obtain ⟨oT, hT1, hT2, hT3⟩ := hit
    have hT2' : h''.get? T = some oT := keep2 T oT napart hT1
    have new : ObjOk X.prog X.w (upd H T (.tup [y1, y2])) h'' T (.tup [y1, y2]) :=
      ⟨by show 2 ≤ sizeLine; decide, [x1, x2], .cons ry1 (.cons ry2 .nil), ⟨oT, hT2', hT2, by simpa using hT3⟩⟩
    have I1 : Inv X pins σ (upd H T (.tup [y1, y2])) { s with heap := h'', toks := tk } :=
      I.turnedNew (ch := [N + 4, N + 2, N + 3, N, N + 1]) (fun c o hb q => keep2 c o (fun z => hb (sub5 z)) (keep c o (fun z => hb (sub5 z)) q)) hf hT new
    obtain ⟨z'', TI'', TO'', i1'', i2''⟩ := st''
    refine ⟨.ref T, _, I1, rfl, ⟨T, y1, y2, rfl, I.hok.fresh hT, rfl, e1, e2⟩, ⟨z'', TI'', TO'', b1 _ _ i1'', b2 _ _ i2''⟩, fun c hcm => ?_⟩
    have hlt : c < s.heap.objs.size := by
      have e' : c = N + 4 ∨ c = N + 2 ∨ c = N + 3 ∨ c = N ∨ c = N + 1 := by simpa using hcm
      have hzl' : (N : Nat) + 4 < s.heap.objs.size := hzl
      rcases e' with q | q | q | q | q <;> rw [q]
      · exact hzl
      · exact (show (N : Nat) + 2 < s.heap.objs.size by omega)
      · exact (show (N : Nat) + 3 < s.heap.objs.size by omega)
      · exact (show (N : Nat) < s.heap.objs.size by omega)
      · exact (show (N : Nat) + 1 < s.heap.objs.size by omega)
    rw [upd_ne (Nat.ne_of_lt (Nat.lt_of_lt_of_le hlt hT))]
    exact (hf c hcm).1
  done := by
    intro X hP hw hK hc i pins s σ H E I hf st hg
    subst hP hw hK
    obtain ⟨hz, hTI, hTO, i1, i2⟩ := st
    obtain ⟨o1, o2, hi⟩ := hg
    obtain ⟨P1, St1, D1, a1, b1, c1⟩ := Src.draws (A := X.A.in1) (it := N) (I.ok.hd hc) I o1 r1 fun a ha => Nat.ne_of_lt (h1 a ha)
    obtain ⟨P2, St2, D2, a2, b2, c2⟩ := Src.draws (A := X.A.in1) (it := N + 1) (I.ok.hd hc) I o2 r2 fun a ha => Nat.ne_of_lt (Nat.lt_succ_of_lt (h2 a ha))
    subst hi
    exact (WalksT.zipD2 (zip_sep2 h1 h2) D1 D2).done s _ _ ⟨hz, hTI, hTO, a1 _ i1, a2 _ i2⟩ fun h' tk keep => ⟨rfl, I.turnedL (t' := tk) (ch := [N + 4, N + 2, N + 3, N, N + 1]) (fun c o hb q => keep c o (fun z => hb (sub5 z)) q) hf⟩
  self := fun _ _ _ _ _ st h => wpAny_pyIter_zip st.1 h
/-- enumerate -/
def Ite2 (K : PySem.W.Frag) (s1 : Src) : It :=
  ⟨fun i H => s1.ok K H ∧ i < s1.len, fun i H v H' => ∃ T x, v = .ref T ∧ H T = none ∧ H' = upd H T (.tup [.int (i : Nat), x]) ∧ s1.at i = some x, fun i H => s1.ok K H ∧ i = s1.len⟩
theorem turn_enum2 {P : Program} {w : World} {K : PySem.W.Frag} {elts : List Expr} {kk N : Nat} {tpos : Pos} {s1 : Src} {v1 : Value} (r1 : RelV s1.val v1) (h1 : ∀ a ∈ s1.ads, a < N) :
    Turn P w K (.Tuple elts kk tpos) (Ite2 K s1) [N + 1, N] (N + 1) (fun i h => (∃ old, IsEnum h (N + 1) N ((i : Nat) : Int) old) ∧ s1.it v1 N i h) where
  mem := by simp
  obj := fun i h st c hc => by
    obtain ⟨⟨old, he⟩, i1⟩ := st
    have e' : c = N + 1 ∨ c = N := by simpa using hc
    rcases e' with q | q
    · rw [q]; exact ⟨_, he, fun v q => nomatch q⟩
    · rw [q]; exact Src.it_obj i1
  keep := fun i h h' st k => by
    obtain ⟨⟨old, he⟩, i1⟩ := st
    exact ⟨⟨old, k (N + 1) (by simp) _ he⟩, Src.it_at i1 fun o q => k N (by simp) o q⟩
  item := by
    intro X hP hw hK hc i pins s σ H E I hf st hg
    subst hP hw hK
    obtain ⟨he, i1⟩ := st
    obtain ⟨o1, l1⟩ := hg
    obtain ⟨P1, St1, D1, a1, b1, c1⟩ := Src.draws (A := X.A.in1) (it := N) (I.ok.hd hc) I o1 r1 fun a ha => Nat.ne_of_lt (h1 a ha)
    have hnf : N + 1 ∉ N :: s1.ads := notIn_new (N := N) (j := 1) (i := 0) h1 (by omega)
    have We := WalksT.enumerateD D1 (N + 1) (Nat.succ_ne_self N) hnf List.mem_cons_self
    have hel : N + 1 < s.heap.objs.size := by obtain ⟨_, he⟩ := he; exact Heap.lt_size he
    refine We.item i s _ _ l1 ⟨he, a1 i i1⟩ fun T vals h' tk hv hT hit mid keep => ?_
    refine ⟨_, rfl, We.go elts kk tpos i T _ _ _ mid fun h'' st'' keep2 => ?_⟩
    obtain ⟨t, x1, q1, rfl⟩ := hv
    obtain ⟨y1, e1, ry1⟩ := c1 i x1 q1
    have napart := We.apart i T _ mid
    obtain ⟨oT, hT1, hT2, hT3⟩ := hit
    have hT2' : h''.get? T = some oT := keep2 T oT napart hT1
    have new : ObjOk X.prog X.w (upd H T (.tup [.int (i : Nat), y1])) h'' T (.tup [.int (i : Nat), y1]) :=
      ⟨by show 2 ≤ sizeLine; decide, [.int i t, x1], .cons ⟨_, rfl⟩ (.cons ry1 .nil), ⟨oT, hT2', hT2, by simpa using hT3⟩⟩
    have I1 : Inv X pins σ (upd H T (.tup [.int (i : Nat), y1])) { s with heap := h'', toks := tk } :=
      I.turnedNew (ch := [N + 1, N]) (fun c o hb q => keep2 c o hb (keep c o hb q)) hf hT new
    obtain ⟨e'', i1''⟩ := st''
    refine ⟨.ref T, _, I1, rfl, ⟨T, y1, rfl, I.hok.fresh hT, rfl, e1⟩, ⟨e'', b1 _ _ i1''⟩, fun c hcm => ?_⟩
    have hlt : c < s.heap.objs.size := by
      have e' : c = N + 1 ∨ c = N := by simpa using hcm
      have hel' : (N : Nat) + 1 < s.heap.objs.size := hel
      rcases e' with q | q <;> rw [q]
      · exact hel
      · exact (show (N : Nat) < s.heap.objs.size by omega)
    rw [upd_ne (Nat.ne_of_lt (Nat.lt_of_lt_of_le hlt hT))]
    exact (hf c hcm).1
  done := by
    intro X hP hw hK hc i pins s σ H E I hf st hg
    subst hP hw hK
    obtain ⟨he, i1⟩ := st
    obtain ⟨o1, hi⟩ := hg
    obtain ⟨P1, St1, D1, a1, b1, c1⟩ := Src.draws (A := X.A.in1) (it := N) (I.ok.hd hc) I o1 r1 fun a ha => Nat.ne_of_lt (h1 a ha)
    have hnf : N + 1 ∉ N :: s1.ads := notIn_new (N := N) (j := 1) (i := 0) h1 (by omega)
    subst hi
    exact (WalksT.enumerateD D1 (N + 1) (Nat.succ_ne_self N) hnf List.mem_cons_self).done s _ _ ⟨he, a1 _ i1⟩ fun h' tk keep => ⟨rfl, I.turnedL (t' := tk) (ch := [N + 1, N]) (fun c o hb q => keep c o hb q) hf⟩
  self := fun _ _ _ _ _ st h => by obtain ⟨⟨_, he⟩, _⟩ := st; exact wpAny_pyIter_enum he h
/-- enumerate(v) begins -/
theorem meets_enumerate_new1 {v : Value} {o : Obj} {H : Heap → Prop} (B : Begins v o H) :
    Meets (Builtin.«enumerate.__new__» ⟨[.type "enumerate", v], []⟩) (fun _ R s => H s.heap ∧
      R (.ok (.ret (.ref (s.heap.push o).objs.size))) { s with heap := (s.heap.push o).push { cls := .type "enumerate", data := .fields #[.none, .bool false, .ref s.heap.objs.size, rawInt 0, .none, .none] } }) :=
  .of_wp fun prog w A R s h => by
    obtain ⟨hp, g, d, tk, os⟩ := s; obtain ⟨h1, h⟩ := h
    have hsub := sub_enumerate
    have q1 : ∀ {A' : Around} {E : Value → Shared → Prop} {Q : Value → Shared → Prop}, Q (.ref hp.objs.size) ⟨hp.push o, g, d, tk, os⟩ → wpAny (model prog w) A' (pyIter v) Q E ⟨hp, g, d, tk, os⟩ :=
      fun q => B.iter prog w _ _ ⟨hp, g, d, tk, os⟩ _ h1 q
    wp_walk using q1
    refine wpAny_stack_any fun st => wpAny_pure ?_
    split
    · rename_i c _ _ _ _ _
      cases (c == Value.type "enumerate")
      · wp_walk using q1
        exact ⟨_, rfl, h⟩
      · wp_walk using q1
        exact ⟨_, rfl, h⟩
    · wp_walk using q1
      exact ⟨_, rfl, h⟩
section
variable {prog : Program} {w : World} {A : Around} {E : Value → Shared → Prop} {s : Shared}
theorem enum_begins1 {v : Value} {o : Obj} {H : Heap → Prop} {Q : Value → Shared → Prop} (B : Begins v o H) (h1 : H s.heap)
    (h : ∀ h', IsEnum h' (s.heap.objs.size + 1) s.heap.objs.size 0 .none → h'.get? s.heap.objs.size = some o → h'.objs.size = s.heap.objs.size + 2 →
      (∀ b o, s.heap.get? b = some o → h'.get? b = some o) → Q (.ref (s.heap.objs.size + 1)) { s with heap := h' }) :
    wpAny (model prog w) A (call (.type "enumerate") [v]) Q E s := by
  refine callType_new F.called_enumerate (by decide) (F.typeCall_enumerate_1 _) (F.newCall_enumerate_1 _) (fun obj => F.args_object_init_2 obj _) F.entry_enumerate_new
    (meets_enumerate_new1 B) ⟨h1, ?_⟩
  have hz : (s.heap.push o).objs.size = s.heap.objs.size + 1 := Heap.size_push ..
  show _ ∧ _
  rw [hz]
  have he : IsEnum ((s.heap.push o).push { cls := .type "enumerate", data := .fields #[.none, .bool false, .ref s.heap.objs.size, rawInt 0, .none, .none] }) (s.heap.objs.size + 1) s.heap.objs.size 0 .none := by
    have := Heap.get?_push_size (s.heap.push o) (o := { cls := .type "enumerate", data := .fields #[.none, .bool false, .ref s.heap.objs.size, rawInt 0, .none, .none] }) rfl
    rw [hz] at this; exact this
  refine ⟨⟨_, he, rfl⟩, h _ he (Heap.get?_push_of_some _ (Heap.get?_push_size _ B.free)) (by rw [Heap.size_push, hz]) fun b o x => Heap.get?_push_of_some _ (Heap.get?_push_of_some _ x)⟩
end
section
variable {X : Cx} {e e2 : Expr} {p pos tpos : Pos} {elts : List Expr} {kk : Nat} {fs : EvA} {ta : TA}
def iZip2 (K : PySem.W.Frag) (ta : TA) : TI := fun σ H R => ta σ H fun vs H1 => ∃ s1 s2, vs = [Src.val s1, Src.val s2] ∧ s1.ok K H1 ∧ s2.ok K H1 ∧ R (Itz2 K s1 s2) H1
theorem pi_zip2 (hg : Gl X "zip") (hm : X.mg "zip" = none) (ha : PA X [e, e2] ta)
    (hs : starEach [e, e2] X.env = (false, eval e X.env) :: starEach [e2] X.env) (hpl : (backTo pos (starEach [e2] X.env)).any (·.1) = false) :
    PI X (.Tuple elts kk tpos) (.Call (.Name "zip" p) [e, e2] [] pos) (iZip2 X.K ta) := by
  refine ⟨fun pins s σ H R I h => ?_⟩
  refine Call_ (ld_blt I hg hm PyProof.Rows.boot_zip (PyProof.Rows.callWith_type1 (thn (ha.run pos pins s σ H _ I h) fun us s1 ⟨vs, H1, I1, r1, q1⟩ => ?_) hs hpl))
  obtain ⟨a, b, ex, oa, ob, q⟩ := q1
  subst ex
  obtain ⟨u1, u2, rfl, ra, rb⟩ := Vals.two r1
  obtain ⟨oA, BA, ba, bha, la, ita⟩ := Src.begins I1 oa ra
  obtain ⟨oB, BB, bb, bhb, lb, itb⟩ := Src.begins I1 ob rb
  refine zip_begins2 ba bb bha bhb fun h' hz hTI hTO h1 h2 hsz hk => wpAny_pyIter_zip hz ?_
  have I2 : Inv X pins σ H1 { s1 with heap := h' } := I1.kept (t' := s1.toks) hk
  refine ⟨s1.heap.objs.size + 4, [s1.heap.objs.size + 4, s1.heap.objs.size + 2, s1.heap.objs.size + 3, s1.heap.objs.size, s1.heap.objs.size + 1], _, _, H1, rfl, I2, turn_zip2 ra rb la lb, ⟨hz, hTI, ⟨_, _, hTO⟩, ita _ _ h1, itb _ _ h2⟩, fun c hcm => ?_, q⟩
  have e' : c = s1.heap.objs.size + 4 ∨ c = s1.heap.objs.size + 2 ∨ c = s1.heap.objs.size + 3 ∨ c = s1.heap.objs.size ∨ c = s1.heap.objs.size + 1 := by simpa using hcm
  have hle : s1.heap.objs.size ≤ c := by
    rcases e' with z | z | z | z | z
    · rw [z]; exact Nat.le_add_right _ _
    · rw [z]; exact Nat.le_add_right _ _
    · rw [z]; exact Nat.le_add_right _ _
    · rw [z]; exact Nat.le_refl _
    · rw [z]; exact Nat.le_add_right _ _
  exact I1.fpOk hle (I1.hok.fresh hle)
def iEnum2 (K : PySem.W.Frag) (ta : TA) : TI := fun σ H R => ta σ H fun vs H1 => ∃ s1, vs = [Src.val s1] ∧ s1.ok K H1 ∧ R (Ite2 K s1) H1
theorem pi_enum2 (hg : Gl X "enumerate") (hm : X.mg "enumerate" = none) (ha : PA X [e] ta) (hs : starEach [e] X.env = [(false, eval e X.env)]) :
    PI X (.Tuple elts kk tpos) (.Call (.Name "enumerate" p) [e] [] pos) (iEnum2 X.K ta) := by
  refine ⟨fun pins s σ H R I h => ?_⟩
  refine Call_ (ld_blt I hg hm boot_enumerate (PyProof.Rows.callWith_type1 (thn (ha.run pos pins s σ H _ I h) fun us s1 ⟨vs, H1, I1, r1, q1⟩ => ?_) hs rfl))
  obtain ⟨a, ex, oa, q⟩ := q1
  subst ex
  obtain ⟨u1, rfl, ra⟩ := Vals.one r1
  obtain ⟨oA, BA, ba, bha, la, ita⟩ := Src.begins I1 oa ra
  refine enum_begins1 ba bha fun h' he h1 hsz hk => wpAny_pyIter_enum he ?_
  have I2 : Inv X pins σ H1 { s1 with heap := h' } := I1.kept (t' := s1.toks) hk
  refine ⟨s1.heap.objs.size + 1, [s1.heap.objs.size + 1, s1.heap.objs.size], _, _, H1, rfl, I2, turn_enum2 ra la, ⟨⟨_, he⟩, ita _ _ h1⟩, fun c hcm => ?_, q⟩
  have e' : c = s1.heap.objs.size + 1 ∨ c = s1.heap.objs.size := by simpa using hcm
  have hle : s1.heap.objs.size ≤ c := by
    rcases e' with z | z
    · rw [z]; exact Nat.le_add_right _ _
    · rw [z]; exact Nat.le_refl _
  exact I1.fpOk hle (I1.hok.fresh hle)
end

/-- the items of a datum -/
def P.items : P → Option (List P)
  | .lst ps => some ps
  | .tup ps => some ps
  | .str s => some (chars s)
  | _ => none
def iZip (fs : EvA) : EvI := fun σ M => (fs σ M).bind fun ds M1 => match ds with
  | [.p a, .p b] => (match a.items, b.items with
    | some xs, some ys => .ok (List.zipWith (fun x y => P.tup [x, y]) xs ys) M1
    | _, _ => .no)
  | _ => .no
def iEnum (fs : EvA) : EvI := fun σ M => (fs σ M).bind fun ds M1 => match ds with
  | [.p a] => (match a.items with
    | some xs => .ok (xs.zipIdx.map fun x => P.tup [.int (x.2 : Nat), x.1]) M1
    | _ => .no)
  | _ => .no
/-- a source that stands for a datum -/
theorem src_of {g : Mg} {K : PySem.W.Frag} {H : Hp} {mu : List Addr} {p : P} {v : V} {xs : List P} (r : Rep g H mu p v) (e : p.items = some xs) :
    ∃ s : Src, v = s.val ∧ s.len = xs.length ∧ ∀ H2 mu2, Le H mu H2 mu2 → s.ok K H2 ∧ ∀ i x, xs[i]? = some x → ∃ y, s.at i = some y ∧ Rep g H2 mu2 x y := by
  cases p with
  | lst ps =>
    cases e
    unfold Rep at r
    obtain ⟨a, vs, rfl, h0, h1, h2⟩ := r
    exact ⟨.l a vs, rfl, h2.length, fun H2 mu2 l => ⟨.of (l.keep a _ h0 h1), fun i x hx => (h2.mono l).get hx⟩⟩
  | tup ps =>
    cases e
    unfold Rep at r
    obtain ⟨a, vs, rfl, h0, h1, h2⟩ := r
    exact ⟨.t a vs, rfl, h2.length, fun H2 mu2 l => ⟨.of (l.keep a _ h0 h1), fun i x hx => (h2.mono l).get hx⟩⟩
  | str s =>
    cases e
    unfold Rep at r
    refine ⟨.s s, r, by simp [chars, Src.len], fun H2 mu2 l => ⟨trivial, fun i x hx => ?_⟩⟩
    simp only [chars, List.getElem?_map, Array.getElem?_toList, Option.map_eq_some_iff] at hx
    obtain ⟨c, e1, rfl⟩ := hx
    exact ⟨.str ⟨#[c]⟩, by simp [Src.at, e1], by unfold Rep; rfl⟩
  | _ => cases e
section
variable {X : Cx} {e e2 : Expr} {p pos tpos : Pos} {elts : List Expr} {kk : Nat} {fs : EvA}
theorem piv_zip (hg : Gl X "zip") (hm : X.mg "zip" = none) (ha : PAv X [e, e2] fs)
    (hs : starEach [e, e2] X.env = (false, eval e X.env) :: starEach [e2] X.env) (hpl : (backTo pos (starEach [e2] X.env)).any (·.1) = false) : PIv X (.Tuple elts kk tpos) (.Call (.Name "zip" p) [e, e2] [] pos) (iZip fs) := fun W tk => by
  refine PI.imp (pi_zip2 hg hm (ha W tk) hs hpl) fun τ H R ⟨σ, M, mu, s, st, h⟩ => ⟨σ, M, mu, s, st, ?_⟩
  refine PostA.mono (PostA.bindI h) fun vs H1 ⟨mu1, ds, M1, l1, st1, r1, h1⟩ => ?_
  try dsimp only at h1
  split at h1
  · split at h1
    · rename_i a b xs ys ea eb
      obtain ⟨v, r, rfl, k1, w, r', k3, k2, k4⟩ := r1
      subst k3
      rw [show r' = [] from k4]
      obtain ⟨s1, rfl, n1, o1⟩ := src_of (K := X.K) k1 ea
      obtain ⟨s2, rfl, n2, o2⟩ := src_of (K := X.K) k2 eb
      refine ⟨s1, s2, rfl, (o1 _ _ (Le.refl _ _)).1, (o2 _ _ (Le.refl _ _)).1, h1 _ H1 mu1 (Le.refl _ _) st1 fun H2 mu2 l hfr => ?_⟩
      obtain ⟨p1, p2⟩ := o1 H2 mu2 l
      obtain ⟨q1, q2⟩ := o2 H2 mu2 l
      rw [List.length_zipWith]
      refine ⟨fun i hi => ⟨p1, q1, by omega, by omega⟩, ⟨p1, q1, by omega⟩, fun i x H3 hi ⟨T, y1, y2, e1, e2, e3, e4, e5⟩ => ⟨.inr ⟨T, _, e2, e3⟩, fun p hp keep => ?_⟩⟩
      have hx : i < xs.length := by omega
      have hy : i < ys.length := by omega
      rw [List.getElem?_zipWith] at hp
      rw [List.getElem?_eq_getElem hx, List.getElem?_eq_getElem hy] at hp
      cases hp
      obtain ⟨z1, f1, f2⟩ := p2 i _ (List.getElem?_eq_getElem hx)
      obtain ⟨z2, f3, f4⟩ := q2 i _ (List.getElem?_eq_getElem hy)
      rw [e4] at f1; cases f1
      rw [e5] at f3; cases f3
      subst e1 e3
      have lu : Le H2 mu2 (L2.upd H2 T (.tup [y1, y2])) mu2 := Le.upd e2
      unfold Rep
      exact ⟨T, _, rfl, hfr T e2, upd_same, RepL.cons (f2.mono lu) (RepL.one (f4.mono lu))⟩
    · exact h1.elim
  · exact h1.elim
theorem piv_enum (hg : Gl X "enumerate") (hm : X.mg "enumerate" = none) (ha : PAv X [e] fs) (hs : starEach [e] X.env = [(false, eval e X.env)]) : PIv X (.Tuple elts kk tpos) (.Call (.Name "enumerate" p) [e] [] pos) (iEnum fs) := fun W tk => by
  refine PI.imp (pi_enum2 hg hm (ha W tk) hs) fun τ H R ⟨σ, M, mu, s, st, h⟩ => ⟨σ, M, mu, s, st, ?_⟩
  refine PostA.mono (PostA.bindI h) fun vs H1 ⟨mu1, ds, M1, l1, st1, r1, h1⟩ => ?_
  try dsimp only at h1
  split at h1
  · split at h1
    · rename_i a xs ea
      obtain ⟨v, r, rfl, k1, k4⟩ := r1
      rw [show r = [] from k4]
      obtain ⟨s1, rfl, n1, o1⟩ := src_of (K := X.K) k1 ea
      refine ⟨s1, rfl, (o1 _ _ (Le.refl _ _)).1, h1 _ H1 mu1 (Le.refl _ _) st1 fun H2 mu2 l hfr => ?_⟩
      obtain ⟨p1, p2⟩ := o1 H2 mu2 l
      rw [List.length_map, List.length_zipIdx]
      refine ⟨fun i hi => ⟨p1, by omega⟩, ⟨p1, by omega⟩, fun i x H3 hi ⟨T, y1, e1, e2, e3, e4⟩ => ⟨.inr ⟨T, _, e2, e3⟩, fun p hp keep => ?_⟩⟩
      rw [List.getElem?_map, List.getElem?_zipIdx, List.getElem?_eq_getElem hi] at hp
      simp only [Option.map_some, Option.some.injEq, Nat.zero_add] at hp
      subst hp
      obtain ⟨z1, f1, f2⟩ := p2 i _ (List.getElem?_eq_getElem hi)
      rw [e4] at f1; cases f1
      subst e1 e3
      have lu : Le H2 mu2 (L2.upd H2 T (.tup [.int (i : Nat), y1])) mu2 := Le.upd e2
      unfold Rep
      exact ⟨T, _, rfl, hfr T e2, upd_same, RepL.cons (by unfold Rep; rfl) (RepL.one (f2.mono lu))⟩
    · exact h1.elim
  · exact h1.elim
end
end Ev

set_option Elab.async false
set_option linter.all false
set_option maxRecDepth 100000
set_option maxHeartbeats 4000000
/-! Core10: isinstance, raise, parallel assignment, += of tuples. -/
namespace Ev
open PySem PySem.Spec PyProof.Rows L2

/-! ### tuple += tuple -/
theorem noI_tuple_add : typeLookup (.type "tuple") (dunderI "add") = pure none := by rw [typeLookup_type, builtinLookup_eq_fast]; kernel_rfl
section
variable {prog : Program} {w : World} {A : Around} {E : Value → Shared → Prop} {s : Shared}
theorem iconcat_meets {T id : String} {B : Builtin} {a b : Value} {S : PySem.Spec} {Q : Value → Shared → Prop} (ha : s.TypeIs a T) (hb : s.TypeIs b T) (hno : typeLookup (.type T) (dunderI "add") = pure none)
    (hfill : fillsNumberSlot (.type T) "add" = pure false) (hseq : seqSlot? (.type T) "__add__" = pure (some (.builtin id))) (slot : Slot T "__add__" id)
    (entry : entryFor table id = some B) (args : argsOk id ⟨[a, b], []⟩) (g : Meets (B ⟨[a, b], []⟩) S) (h : S A (wants Q E) s) : wpAny (model prog w) A (inplaceOp .Add a b) Q E s :=
  wpAny_inplaceOp_concat ha hb hno hfill hseq (call_meets slot ha entry args g h)
theorem icat_tup {t b : Addr} {vs ws : List Value} {Q : Value → Shared → Prop} (ht : IsTup s.heap t vs.toArray) (hb : IsTup s.heap b ws.toArray)
    (h0 : vs = [] → Q (.ref b) s) (h1 : vs ≠ [] → ws = [] → Q (.ref t) s) (h2 : vs ≠ [] → ws ≠ [] → Q (.ref s.heap.objs.size) { s with heap := s.heap.push { cls := .type "tuple", data := .seq (vs ++ ws).toArray } })
    (hsz : vs.length + ws.length ≤ sizeLine) : wpAny (model prog w) A (inplaceOp .Add (.ref t) (.ref b)) Q E s := by
  obtain ⟨⟨cls, dd, data, sl⟩, ho, hc, n, hd⟩ := id ht
  obtain ⟨⟨cls2, dd2, data2, sl2⟩, ho2, hc2, n2, hd2⟩ := id hb
  simp only at hc hd hc2 hd2
  subst hc hd hc2 hd2
  have e : vs.toArray ++ ws.toArray = (vs ++ ws).toArray := by simp
  by_cases hv : vs = []
  · exact iconcat_meets ⟨_, ho, rfl⟩ ⟨_, ho2, rfl⟩ noI_tuple_add noFill_tuple_add seq_tuple_add PySem.F.slot_tuple_add PySem.F.entry_tuple_add (PySem.F.args_tuple_add_2 _ _)
      (tuple_addW0 t b vs.toArray ws.toArray n n2 dd dd2 sl sl2 (by simp [hv])) ⟨ho, ho2, h0 hv⟩
  by_cases hw : ws = []
  · exact iconcat_meets ⟨_, ho, rfl⟩ ⟨_, ho2, rfl⟩ noI_tuple_add noFill_tuple_add seq_tuple_add PySem.F.slot_tuple_add PySem.F.entry_tuple_add (PySem.F.args_tuple_add_2 _ _)
      (tuple_addW1 t b vs.toArray ws.toArray n n2 dd dd2 sl sl2 (by simpa using hv) (by simp [hw])) ⟨ho, ho2, h1 hv hw⟩
  · refine iconcat_meets ⟨_, ho, rfl⟩ ⟨_, ho2, rfl⟩ noI_tuple_add noFill_tuple_add seq_tuple_add PySem.F.slot_tuple_add PySem.F.entry_tuple_add (PySem.F.args_tuple_add_2 _ _)
      (tuple_addW2 t b vs.toArray ws.toArray n n2 dd dd2 sl sl2 (by simpa using hv) (by simpa using hw) (by rw [List.size_toArray, List.size_toArray]; exact hsz)) ⟨ho, ho2, ?_⟩
    rw [e]
    exact h2 hv hw
end
section
variable {X : Cx}
theorem iop_catA : OpR X (inplaceOp .Add) (rCatA X.K) := by
  intro pins s σ H x y v u Q I rx ry h
  obtain ⟨a, b, xs, ys, rfl, rfl, ha, hb, hz, q0, q1, q2⟩ := h
  cases rx
  cases ry
  obtain ⟨its, r1, p1, _⟩ := I.tuple ha
  obtain ⟨its2, r2, p2, _⟩ := I.tuple hb
  have n1 : its = [] ↔ xs = [] := r1.nil_iff
  have n2 : its2 = [] ↔ ys = [] := r2.nil_iff
  refine icat_tup p1 p2 (fun z => ⟨V.ref b, H, I, rfl, q0 (n1.mp z)⟩) (fun z z2 => ⟨V.ref a, H, I, rfl, q1 (fun k => z (n1.mpr k)) (n2.mp z2)⟩) (fun z z2 => ?_) (by rw [← r1.length, ← r2.length]; exact hz)
  have hp : H s.heap.objs.size = none := I.hok.fresh (Nat.le_refl _)
  refine ⟨.ref s.heap.objs.size, _, I.laid (t' := s.toks) (a := s.heap.objs.size) (o := .tup (xs ++ ys)) (fun b o e => Heap.get?_push_of_some _ e) (Nat.le_refl _) ⟨by rw [List.length_append]; exact hz, its ++ its2, r1.append r2, ⟨_, Heap.get?_push_size _ rfl, rfl, _, rfl⟩⟩, rfl, q2 (fun k => z (n1.mpr k)) (fun k => z2 (n2.mpr k)) _ hp⟩
def oIadd : P → P → Option D
  | .int i, .int j => some (.p (.int (i + j)))
  | .str a, .str b => if a.length + b.length ≤ lim then some (.p (.str (a ++ b))) else none
  | .tup a, .tup b => if a.length + b.length ≤ lim then some (.p (.tup (a ++ b))) else none
  | _, _ => none
theorem o_iadd : Op2 X (inplaceOp .Add) oIadd := by
  refine OpR.imp ((iop_add.or iop_add_str).or iop_catA) fun x y H Q h => ?_
  obtain ⟨mu, M, p, q, d, st, rx, ry, e, hq⟩ := h
  unfold oIadd at e
  split at e
  · cases e
    exact .inl (.inl ⟨_, _, rd_int rx, rd_int ry, hq _ H (Le.refl _ _) (post_int st)⟩)
  · split at e
    · rename_i hl
      cases e
      exact .inl (.inr ⟨_, _, rd_str rx, rd_str ry, lim_le hl, hq _ H (Le.refl _ _) (post_str st)⟩)
    · cases e
  · split at e
    · rename_i hl
      cases e
      obtain ⟨a, vs, rfl, ha, h1, h2⟩ := rd_tup rx
      obtain ⟨b, ws, rfl, hb, k1, k2⟩ := rd_tup ry
      refine .inr ⟨a, b, vs, ws, rfl, rfl, .of h1, .of k1, ?_, fun z => ?_, fun _ z => ?_, fun _ _ p hp => hq _ _ (Le.upd hp) (post_tup st hp (h2.append k2))⟩
      · rw [h2.length, k2.length]
        exact lim_le hl
      · have z' := h2.length
        rw [z] at z'
        have z2 := List.eq_nil_of_length_eq_zero z'.symm
        subst z2
        refine hq _ H (Le.refl _ _) ⟨st, ?_⟩
        show Rep _ _ _ _ _
        unfold Rep
        exact ⟨b, ws, rfl, hb, k1, k2⟩
      · have z' := k2.length
        rw [z] at z'
        have z2 := List.eq_nil_of_length_eq_zero z'.symm
        subst z2
        refine hq _ H (Le.refl _ _) ⟨st, ?_⟩
        show Rep _ _ _ _ _
        unfold Rep
        rw [List.append_nil]
        exact ⟨a, vs, rfl, ha, h1, h2⟩
    · cases e
  · cases e
theorem o_isub : Op2 X (inplaceOp .Sub) oSub := op2_int0 iop_sub fun p q d e => by
  unfold oSub at e
  split at e
  · cases e; exact ⟨_, _, _, rfl, rfl, rfl, fun H mu => by unfold Rep; rfl⟩
  · cases e
theorem o_imod : Op2 X (inplaceOp .Mod) oMod := op2_int iop_mod fun p q d e => by
  unfold oMod at e
  split at e
  · split at e
    · cases e; exact ⟨_, _, _, rfl, rfl, rfl, by assumption, fun H mu => by unfold Rep; rfl⟩
    · cases e
  · cases e
end

/-! ### isinstance(x, T), T a built-in type -/
def P.ty : P → Option String
  | .non => some "NoneType"
  | .bl _ => some "bool"
  | .int _ => some "int"
  | .str _ => some "str"
  | .tup _ => some "tuple"
  | .lst _ => some "list"
  | .scr _ => some "list"
  | .fn _ => none
/-- is a value of type a a T? -/
def isiB (a T : String) : Bool := a == T || (a == "bool" && T == "int")
def tyOk (T : String) : Bool := T == "int" || T == "str" || T == "tuple" || T == "bool" || T == "list"
theorem isiB_ok : ∀ a ∈ ["NoneType", "bool", "int", "str", "tuple", "list"], ∀ T ∈ ["int", "str", "tuple", "bool", "list"], kitB a T = some (isiB a T) := by decide +kernel
theorem ty_mem {p : P} {a : String} (h : p.ty = some a) : a ∈ ["NoneType", "bool", "int", "str", "tuple", "list"] := by
  cases p <;> cases h <;> simp
theorem tyOk_mem {T : String} (h : tyOk T = true) : T ∈ ["int", "str", "tuple", "bool", "list"] := by
  simp only [tyOk, Bool.or_eq_true, beq_iff_eq] at h
  rcases h with (((h | h) | h) | h) | h <;> simp [h]
def eIsi (T : String) (f : EvD) : EvD := fun σ M => (f σ M).bind fun d M1 => match d.get M1 with
  | some p => (match p.ty with
    | some a => .ok (.p (.bl (isiB a T))) M1
    | none => .no)
  | none => .no
theorem ty_rd {g : Mg} {H : Hp} {mu : List Addr} {p : P} {v : V} {a : String} (r : RdP g H mu p v) (h : p.ty = some a) : TyX g.K H v (.type a) := by
  cases p with
  | non => cases h; rw [rd_non r]; exact .base .non
  | bl b => cases h; rw [rd_bl r]; exact .base (.bl b)
  | int b => cases h; rw [rd_int r]; exact .base (.int b)
  | str b => cases h; rw [rd_str r]; exact .base (.str b)
  | tup ps => cases h; obtain ⟨x, vs, rfl, _, h1, h2⟩ := rd_tup r; exact .base (.tup h1)
  | lst ps => cases h; obtain ⟨x, vs, rfl, h1, h2⟩ := rd_lst r; exact .base (.lst h1)
  | scr ns =>
    cases h
    obtain ⟨x, rfl, (h1 | ⟨o, h1⟩) | ⟨o, its, n, h1, h2, h3⟩⟩ := scr_inv r
    · exact .base (.lst h1)
    · exact .base (.frz h1)
    · exact .kList h1 h2
  | fn _ => cases h
section
variable {X : Cx} {e : Expr} {f : EvD} {T : String} {x : Str} {p p2 pos : Pos}
theorem pv_isi (hg : Gl X "isinstance") (hm : X.mg "isinstance" = none) (hT : tyOk T = true) (hgT : Gl X x) (hmT : X.mg x = none) (hv : bootBuiltins x = some (.type T)) (hx : x ≠ "__name__") (hd : (x == ("__debug__" : Str)) = false) (hp : PEv X e f)
    (he : starEach [e, .Name x p2] X.env = (false, eval e X.env) :: starEach [.Name x p2] X.env) : PEv X (.Call (.Name "isinstance" p) [e, .Name x p2] [] pos) (eIsi T f) := fun W tk => by
  have ha : PA X [e, .Name x p2] (tCons (tE X.g W f) (tCons (tC (.ty T)) tNil)) := pa_cons (hp W tk) (pa_cons (pe_bltn hgT hmT hv rfl hx hd) pa_nil) he
  refine PE.imp (pe_callB call_isi hg hm (by decide +kernel) ha (by decide) (by decide) he) fun τ H Q ⟨σ, M, mu, s, st, h⟩ => ?_
  refine ⟨σ, M, mu, s, st, (PostO.bind h).mono fun v H1 ⟨mu1, d, M1, l1, st1, r1, h1⟩ => ?_⟩
  try dsimp only at h1
  split at h1
  · rename_i q hq
    split at h1
    · rename_i a ea
      have rd := r1.get st1 (by rw [get_val]; exact hq)
      exact ⟨v, .ty T, .type a, .type T, isiB a T, rfl, .ty T, ty_rd rd ea, kit_ty (isiB_ok a (ty_mem ea) T (tyOk_mem hT)), h1 _ H1 mu1 (Le.refl _ _) (post_bl st1)⟩
    · exact h1.elim
  · exact h1.elim
end

/-! ### raise X('m') -/
def ExcG (K : PySem.W.Frag) (mg : Str → Option Value) (x : Str) : Prop := ∃ (C : Addr) (bmB : List Value) (B newId initId : String), ExcBaseFacts B newId initId bmB ∧ PySem.W.excIn K C bmB newId = true ∧ mg x = some (.ref C) ∧ PySem.W.keepIn K (.ref C) = true ∧
  PySem.W.subIn K (.ref C) (.type "BaseException") = some true ∧ PySem.W.typeIn K (.ref C) = some (.type "type")
section
variable {X : Cx} {x m : Str} {j : Nat} {p p2 pos pos2 : Pos}
theorem psv_raise (hc : X.calm = true) (hx : ExcG X.K X.mg x) (hg : Gl X x) (hdb : (x == ("__debug__" : Str)) = false) : PSv X (.Raise (some (.Call (.Name x p) [.Constant (.str m) j p2] [] pos)) none pos2) (sRaise x) := fun W tk => by
  obtain ⟨C, bmB, B, newId, initId, F, q, gC, kC, r1, r2⟩ := hx
  refine PS.imp (L2N.ps_raise hc tk (L2N.pmk_own F q gC kC (raises_own r1 r2) hg hdb)) fun D τ H ⟨σ, M, mu, s, st, h⟩ => ?_
  exact h (.ref C) none τ H mu (Le.refl _ _) s st ⟨C, gC, rfl, rfl⟩
end

/-! ### a, b = x, y -/
def sPar (ids : List Nat) (fs : EvA) : EvS := fun σ M => (fs σ M).toS σ fun ds M1 => if ds.length = ids.length then .ok (.nx ((ids.zip ds).foldl (fun σ x => σ.set x.1 (some x.2)) σ)) M1 else .no
section
variable {X : Cx}
theorem psv_par {i j : Nat} {x y : Str} {a b : Expr} {fs : EvA} {px py pt pos : Pos} {kt k2 pt2} (hc : X.calm = true) (hN : X.N.Nodup) (hi : X.N[i]? = some x) (hj : X.N[j]? = some y) (hij : i ≠ j)
    (hx : X.env.scope.names.lookup x = some .local) (hy : X.env.scope.names.lookup y = some .local) (ha : PAv X [a, b] fs)
    (hw : swappedStores [.Tuple [.Name x px, .Name y py] kt pt] (.Tuple [a, b] k2 pt2) X.env = pure (some [x, y]))
    (hs : swapsWithSole [.Tuple [.Name x px, .Name y py] kt pt] (.Tuple [a, b] k2 pt2) pos.line X.env = pure false) :
    PSv X (.Assign [.Tuple [.Name x px, .Name y py] kt pt] (.Tuple [a, b] k2 pt2) pos) (sPar [i, j] fs) := fun W tk =>
  PS.imp (ps_par hc hN hi hj hij hx hy (ha W tk) hw hs) fun D τ H ⟨σ, M, mu, s, st, h⟩ => by
    refine ⟨σ, M, mu, s, st, (PostA.bindS s h).mono fun vs H1 ⟨mu1, ds, M1, l1, st1, r1, h1⟩ => ?_⟩
    split at h1
    · rename_i hl
      match ds, hl, r1, h1 with
      | [d, e], _, ⟨v, r, e1, k1, w, r', e2, k2, k3⟩, h1 =>
        subst e2 e1
        rw [show r' = [] from k3]
        exact ⟨v, w, rfl, h1 _ H1 mu1 (Le.refl _ _) (((s.mono l1).set i k1).set j k2) st1⟩
    · exact h1.elim
theorem psv_par3 {i j l : Nat} {x y z : Str} {a b c : Expr} {fs : EvA} {px py pz pt pos : Pos} {kt k2 pt2} (hc : X.calm = true) (hN : X.N.Nodup) (hi : X.N[i]? = some x) (hj : X.N[j]? = some y) (hl : X.N[l]? = some z) (hij : i ≠ j) (hil : i ≠ l) (hjl : j ≠ l)
    (hx : X.env.scope.names.lookup x = some .local) (hy : X.env.scope.names.lookup y = some .local) (hz : X.env.scope.names.lookup z = some .local) (ha : PAv X [a, b, c] fs)
    (hw : swappedStores [.Tuple [.Name x px, .Name y py, .Name z pz] kt pt] (.Tuple [a, b, c] k2 pt2) X.env = pure (some [x, y, z]))
    (hs : swapsWithSole [.Tuple [.Name x px, .Name y py, .Name z pz] kt pt] (.Tuple [a, b, c] k2 pt2) pos.line X.env = pure false) :
    PSv X (.Assign [.Tuple [.Name x px, .Name y py, .Name z pz] kt pt] (.Tuple [a, b, c] k2 pt2) pos) (sPar [i, j, l] fs) := fun W tk =>
  PS.imp (ps_par3 hc hN hi hj hl hij hil hjl hx hy hz (ha W tk) hw hs) fun D τ H ⟨σ, M, mu, s, st, h⟩ => by
    refine ⟨σ, M, mu, s, st, (PostA.bindS s h).mono fun vs H1 ⟨mu1, ds, M1, l1, st1, r1, h1⟩ => ?_⟩
    split at h1
    · rename_i hl
      match ds, hl, r1, h1 with
      | [d, e, f], _, ⟨v, r, e1, k1, w, r', e2, k2, u, r'', e3, k3, k4⟩, h1 =>
        subst e3 e2 e1
        rw [show r'' = [] from k4]
        exact ⟨v, w, u, rfl, h1 _ H1 mu1 (Le.refl _ _) ((((s.mono l1).set i k1).set j k2).set l k3) st1⟩
    · exact h1.elim
end
end Ev

set_option Elab.async false
set_option linter.all false
set_option maxRecDepth 100000
set_option maxHeartbeats 4000000
/-! Core11: from the text to the combinators. -/
namespace Ev
open PySem PySem.Spec PyProof.Rows L2

structure Gm where
  N : List Str
  sc : Scope
  fns : List (Str × Nat × Fn)
  cst : List (Str × P)
  mu : List Str
  exc : List Str
  stc : Str → Bool
def bltN : List Str := ["isinstance", "len", "abs", "max", "min", "sum", "all", "sorted", "int", "str", "tuple", "list", "bool", "range", "zip", "enumerate"]
structure CtxOk (X : Cx) (k : Nat) (Γ : Gm) : Prop where
  N : X.N = Γ.N
  nd : Γ.N.Nodup
  sc : X.env.scope = Γ.sc
  kind : Γ.sc.kind = .function
  calm : X.calm = true
  room : Room k X.A
  fns : ∀ x n F, (x, n, F) ∈ Γ.fns → FnG X.prog X.w X.K X.mg X.base k x n F
  cst : ∀ x p, (x, p) ∈ Γ.cst → ∃ u v, X.mg x = some u ∧ RelV v u ∧ ∀ H mu, Rep X.g H mu p v
  fn : ∀ x, Γ.stc x = true → X.fn x = true
  blt : ∀ x ∈ bltN, X.mg x = none
  exc : ∀ x ∈ Γ.exc, ExcG X.K X.mg x
structure CtxS (X : Cx) : Prop where
  own : PassesOwn (model X.prog X.w) X.A X.env X.xe
def idx (x : Str) : List Str → Option Nat
  | [] => none
  | y :: r => if x = y then some 0 else match idx x r with
    | some i => some (i + 1)
    | none => none
theorem idx_ok {x : Str} : ∀ {N : List Str} {i : Nat}, idx x N = some i → N[i]? = some x
  | [], _, h => by cases h
  | y :: r, i, h => by
    unfold idx at h
    split at h
    · rename_i e; cases h; rw [e]; rfl
    · split at h
      · rename_i j e; cases h; simpa using idx_ok e
      · cases h
def assoc {α : Type} (x : Str) : List (Str × α) → Option α
  | [] => none
  | (y, a) :: r => if x = y then some a else assoc x r
theorem assoc_ok {α : Type} {x : Str} {a : α} : ∀ {l : List (Str × α)}, assoc x l = some a → (x, a) ∈ l
  | [], h => by cases h
  | (y, b) :: r, h => by
    unfold assoc at h
    split at h
    · rename_i e; cases h; rw [e]; exact List.mem_cons_self
    · exact List.mem_cons_of_mem _ (assoc_ok h)
def okName (x : Str) : Bool := !(x == ("__debug__" : Str)) && !(x == ("__classdict__" : Str)) && !(x == ("__name__" : Str))
theorem okName_1 {x : Str} (h : okName x = true) : (x == ("__debug__" : Str)) = false := by
  unfold okName at h; simp only [Bool.and_eq_true, Bool.not_eq_true'] at h; exact h.1.1
theorem okName_2 {x : Str} (h : okName x = true) : (x == ("__classdict__" : Str)) = false := by
  unfold okName at h; simp only [Bool.and_eq_true, Bool.not_eq_true'] at h; exact h.1.2
theorem okName_3 {x : Str} (h : okName x = true) : x ≠ "__name__" := fun e => by
  subst e; revert h; decide
def isVis (sc : Scope) (x : Str) : Bool := match sc.names.lookup x with
  | some .local => true
  | some .cell => true
  | some .free => true
  | _ => false
def isLoc (Γ : Gm) (x : Str) : Bool := match Γ.sc.names.lookup x with
  | some .local => true
  | some .cell => Γ.stc x
  | _ => false
def isLcl (sc : Scope) (x : Str) : Bool := match sc.names.lookup x with
  | some .local => true
  | _ => false
def isGl (sc : Scope) (x : Str) : Bool := match sc.names.lookup x with
  | some .globalImplicit => true
  | _ => false
section
variable {X : Cx} {k : Nat} {Γ : Gm} {x : Str}
theorem vis_ok (C : CtxOk X k Γ) (h : isVis Γ.sc x = true) : Vis X.env.scope x := by
  unfold isVis at h
  rw [C.sc]
  split at h
  · exact .inl (by assumption)
  · exact .inr (.inl (by assumption))
  · exact .inr (.inr (by assumption))
  · cases h
theorem loc_ok (C : CtxOk X k Γ) (h : isLoc Γ x = true) : Loc X.env.scope x ∧ (X.fn x = true ∨ X.env.scope.names.lookup x = some .local) := by
  unfold isLoc at h
  have hf := C.fn x
  rw [C.sc]
  split at h
  · exact ⟨.inl (by assumption), .inr (by assumption)⟩
  · rename_i e
    exact ⟨.inr e, .inl (hf h)⟩
  · cases h
theorem lcl_ok (C : CtxOk X k Γ) (h : isLcl Γ.sc x = true) : X.env.scope.names.lookup x = some .local := by
  unfold isLcl at h
  rw [C.sc]
  split at h
  · assumption
  · cases h
theorem gl_ok (C : CtxOk X k Γ) (h : isGl Γ.sc x = true) : Gl X x := by
  unfold isGl at h
  split at h
  · rename_i e
    show X.env.scope.names.lookup x = some .globalImplicit
    rw [C.sc]; exact e
  · cases h
end

structure Cmp where
  e : Gm → Expr → Option EvD
  a : Gm → List Expr → Option EvA
  t : Gm → Expr → Option EvB
  i : Gm → Expr → Expr → Option EvI
  g : Gm → Expr → Option Tg
  gs : Gm → List Expr → Option (List Tg)
  s : Gm → Stmt → Option EvS
  ss : Gm → List Stmt → Option EvS
structure Snd (c : Cmp) : Prop where
  e : ∀ {X k Γ}, CtxOk X k Γ → ∀ {x f}, c.e Γ x = some f → PEv X x f
  a : ∀ {X k Γ}, CtxOk X k Γ → ∀ {x f}, c.a Γ x = some f → PAv X x f
  t : ∀ {X k Γ}, CtxOk X k Γ → ∀ {x f}, c.t Γ x = some f → PTv X x f
  i : ∀ {X k Γ}, CtxOk X k Γ → ∀ {tg x f}, c.i Γ tg x = some f → PIv X tg x f
  g : ∀ {X k Γ}, CtxOk X k Γ → ∀ {x f}, c.g Γ x = some f → PGv X x f
  gs : ∀ {X k Γ}, CtxOk X k Γ → ∀ {x f}, c.gs Γ x = some f → PGsv X x f
  gl : ∀ {Γ x ts}, c.gs Γ x = some ts → ts.length = x.length
  s : ∀ {X k Γ}, CtxOk X k Γ → CtxS X → ∀ {x f}, c.s Γ x = some f → PSv X x f
  ss : ∀ {X k Γ}, CtxOk X k Γ → CtxS X → ∀ {x f}, c.ss Γ x = some f → PSsv X x f

/-! ### operators -/
def opB : Operator → Option (P → P → Option D)
  | .Add => some oAdd | .Sub => some oSub | .Mult => some oMul | .FloorDiv => some oFdiv | .Mod => some oMod | .Pow => some oPow
  | _ => none
def opC : CmpOp → P → P → Option D
  | .Eq => oEq | .NotEq => oNe | .Lt => oLt | .LtE => oLe | .Gt => oGt | .GtE => oGe | .Is => oIsN | .IsNot => oNotN | .In => oIn | .NotIn => oNotIn
def opI : Operator → Option (P → P → Option D)
  | .Add => some oIadd | .Sub => some oSub | .Mod => some oMod
  | _ => none
section
variable {X : Cx} {k : Nat} {Γ : Gm}
theorem opB_ok {op : Operator} {o} (h : opB op = some o) : Op2 X (binaryOp op) o := by
  cases op <;> cases h
  · exact o_add
  · exact o_sub
  · exact o_mul
  · exact o_mod
  · exact o_pow
  · exact o_fdiv
theorem opC_ok (C : CtxOk X k Γ) (op : CmpOp) : Op2 X (compareOp op) (opC op) := by
  have hu := C.room.units
  cases op
  · exact o_eq hu
  · exact o_ne hu
  · exact o_lt
  · exact o_le
  · exact o_gt
  · exact o_ge
  · exact o_isN
  · exact o_notN
  · exact o_in
  · exact o_notIn
theorem opI_ok {op : Operator} {o} (h : opI op = some o) : Op2 X (inplaceOp op) o := by
  cases op <;> cases h
  · exact o_iadd
  · exact o_isub
  · exact o_imod
end

/-! ### argument lists -/
def noStar : Expr → Bool
  | .Starred .. => false
  | _ => true
theorem star_of {e : Expr} {es : List Expr} {env : Env} (h : noStar e = true) : starEach (e :: es) env = (false, eval e env) :: starEach es env := by
  cases e <;> first | rfl | cases h
theorem star_none {es : List Expr} {env : Env} (h : es.all noStar = true) : (starEach es env).any (·.1) = false := by
  induction es with
  | nil => rfl
  | cons e r ih =>
    rw [List.all_cons, Bool.and_eq_true] at h
    rw [star_of h.1, List.any_cons, ih h.2]; rfl
theorem back_none {es : List Expr} {env : Env} {pos : Pos} (h : es.all noStar = true) : (backTo pos (starEach es env)).any (·.1) = false := by
  induction es with
  | nil => rfl
  | cons e r ih =>
    rw [List.all_cons, Bool.and_eq_true] at h
    rw [star_of h.1]
    show (false || (backTo pos (starEach r env)).any (·.1)) = false
    rw [ih h.2]; rfl
theorem back_all {es : List Expr} {env : Env} {pos : Pos} (h : es.all noStar = true) : (backTo pos (starEach es env)).all (fun x => !x.1) = true := by
  induction es with
  | nil => rfl
  | cons e r ih =>
    rw [List.all_cons, Bool.and_eq_true] at h
    rw [star_of h.1]
    show (true && (backTo pos (starEach r env)).all (fun x => !x.1)) = true
    rw [ih h.2]; rfl
theorem few_of {es : List Expr} {env : Env} {pos : Pos} (h : es.all noStar = true) (hl : decide (es.length < 30) = true) : ((backTo pos (starEach es env)).all (fun x => !x.1) && (backToKw pos (keywordEach [] env)).all (fun x => x.1.isSome)
      && decide (es.length + ([] : List Keyword).length + (if ([] : List Keyword).isEmpty then 0 else 1) < 30)) = true := by
  rw [back_all h]
  have e : es.length + ([] : List Keyword).length + (if ([] : List Keyword).isEmpty then 0 else 1) = es.length := by simp
  rw [e, hl]; rfl
def cA (c : Cmp) (Γ : Gm) : List Expr → Option EvA
  | [] => some aNil
  | e :: es => match c.e Γ e, c.a Γ es, noStar e with
    | some f, some r, true => some (aCons f r)
    | _, _, _ => none
theorem cA_ok {c : Cmp} (S : Snd c) {X k Γ} (C : CtxOk X k Γ) : ∀ {es : List Expr} {f : EvA}, cA c Γ es = some f → PAv X es f
  | [], f, h => by cases h; exact pav_nil
  | e :: es, f, h => by
    have h : (match c.e Γ e, c.a Γ es, noStar e with
      | some f, some r, true => some (aCons f r)
      | _, _, _ => none) = some f := h
    split at h
    · rename_i h1 h2 h3
      cases h
      exact pav_cons (S.e C h1) (S.a C h2) (star_of h3)
    · cases h

/-! ### calls -/
def bltO (x : Str) : Option (List P → Option D) := if x = "len" then some cLen else if x = "abs" then some cAbs else if x = "max" then some cMax else if x = "min" then some cMin else if x = "sum" then some cSum else if x = "all" then some cAll
    else if x = "sorted" then some cSorted else if x = "int" then some cInt else if x = "str" then some cStr else if x = "tuple" then some cTuple else if x = "list" then some cList else none
section
variable {X : Cx} {k : Nat} {Γ : Gm} {e : Expr} {es : List Expr} {fs : EvA} {p pos : Pos}
theorem bltO_ok (C : CtxOk X k Γ) {x : Str} {o} (h : bltO x = some o) (hg : isGl Γ.sc x = true) (ha : PAv X (e :: es) fs) (hs : (e :: es).all noStar = true) : PEv X (.Call (.Name x p) (e :: es) [] pos) (eCB o fs) := by
  rw [List.all_cons, Bool.and_eq_true] at hs
  have h1 := star_of (es := es) (env := X.env) hs.1
  have h2 := back_none (env := X.env) (pos := pos) hs.2
  have hG := gl_ok C hg
  unfold bltO at h
  split at h
  · rename_i ex; subst ex; cases h
    exact pv_callB c_len hG (C.blt _ (by decide)) (by decide +kernel) ha (by decide) (by decide) h1 h2
  split at h
  · rename_i ex; subst ex; cases h
    exact pv_callB c_abs hG (C.blt _ (by decide)) (by decide +kernel) ha (by decide) (by decide) h1 h2
  split at h
  · rename_i ex; subst ex; cases h
    exact pv_callB (c_max C.calm) hG (C.blt _ (by decide)) (by decide +kernel) ha (by decide) (by decide) h1 h2
  split at h
  · rename_i ex; subst ex; cases h
    exact pv_callB (c_min C.calm) hG (C.blt _ (by decide)) (by decide +kernel) ha (by decide) (by decide) h1 h2
  split at h
  · rename_i ex; subst ex; cases h
    exact pv_callB (c_sum C.calm) hG (C.blt _ (by decide)) (by decide +kernel) ha (by decide) (by decide) h1 h2
  split at h
  · rename_i ex; subst ex; cases h
    exact pv_callB (c_all C.calm) hG (C.blt _ (by decide)) (by decide +kernel) ha (by decide) (by decide) h1 h2
  split at h
  · rename_i ex; subst ex; cases h
    exact pv_callB c_sorted hG (C.blt _ (by decide)) (by decide +kernel) ha (by decide) (by decide) h1 h2
  split at h
  · rename_i ex; subst ex; cases h
    exact pv_callTy c_int hG (C.blt _ (by decide)) (by decide +kernel) ha (by decide) (by decide) h1 h2
  split at h
  · rename_i ex; subst ex; cases h
    exact pv_callTy c_str hG (C.blt _ (by decide)) (by decide +kernel) ha (by decide) (by decide) h1 h2
  split at h
  · rename_i ex; subst ex; cases h
    exact pv_callTy c_tuple hG (C.blt _ (by decide)) (by decide +kernel) ha (by decide) (by decide) h1 h2
  split at h
  · rename_i ex; subst ex; cases h
    exact pv_callTy c_list hG (C.blt _ (by decide)) (by decide +kernel) ha (by decide) (by decide) h1 h2
  cases h
end
/-- methods of built-ins: the receiver's expression, arguments -/
def isCall : Expr → Bool
  | .Call .. => true
  | _ => false
theorem base_of {o : Expr} {name : Str} {env : Env} {wh : Sem Value} (h : isCall o = false) : attributeBase o name env wh = wh := by
  cases o <;> first | rfl | cases h
def mtO (name : Str) (fa : EvD) (fs : EvA) : Option EvD :=
  if name = "join" then some (eMt "str" mJoin fa fs) else if name = "split" then some (eMt "str" mSplit fa fs) else if name = "count" then some (eMt "list" mCount fa fs)
  else if name = "append" then some (eLm appK fa fs) else if name = "extend" then some (eLm extK fa fs) else none
section
variable {X : Cx} {k : Nat} {Γ : Gm} {o e : Expr} {es : List Expr} {fa f : EvD} {fs : EvA} {apos pos : Pos}
theorem mtO_ok (C : CtxOk X k Γ) {name : Str} (h : mtO name fa fs = some f) (ho : PEv X o fa) (ha : PAv X (e :: es) fs) (hs : (e :: es).all noStar = true) (hl : decide ((e :: es).length < 30) = true) (hc : isCall o = false) (hline : (apos.endLine == pos.line) = true) :
    PEv X (.Call (.Attribute o name apos) (e :: es) [] pos) f := by
  have hf := few_of (env := X.env) (pos := pos) hs hl
  rw [List.all_cons, Bool.and_eq_true] at hs
  have h1 := star_of (es := es) (env := X.env) hs.1
  have h2 := back_none (env := X.env) (pos := pos) hs.2
  unfold mtO at h
  split at h
  · rename_i ex; subst ex; cases h
    exact pv_mt F.plainAttrs_str F.slot_str_join rfl m_join ho ha (base_of hc) hf hline h1 h2
  split at h
  · rename_i ex; subst ex; cases h
    exact pv_mt F.plainAttrs_str F.slot_str_split rfl m_split ho ha (base_of hc) hf hline h1 h2
  split at h
  · rename_i ex; subst ex; cases h
    exact pv_mt F.plainAttrs_list F.slot_list_count rfl m_count ho ha (base_of hc) hf hline h1 h2
  split at h
  · rename_i ex; subst ex; cases h
    exact pv_lm F.plainAttrs_list F.slot_list_append rfl mt_append lm_app ho ha (base_of hc) hf hline h1 h2
  split at h
  · rename_i ex; subst ex; cases h
    exact pv_lm F.plainAttrs_list F.slot_list_extend rfl mt_extend lm_ext ho ha (base_of hc) hf hline h1 h2
  cases h
end
end Ev

set_option Elab.async false
set_option linter.all false
set_option maxRecDepth 100000
set_option maxHeartbeats 4000000
/-! Core12: from the text to the combinators: expressions. -/
namespace Ev
open PySem PySem.Spec PyProof.Rows L2

def zpos : Pos := ⟨0, 0, 0, 0⟩
def cName (Γ : Gm) (x : Str) : Option EvD :=
  if okName x = true then (if isVis Γ.sc x = true then (match idx x Γ.N with
    | some i => some (eVar i)
    | none => none)
  else if isGl Γ.sc x = true then (match assoc x Γ.cst with
    | some p => some (eC p)
    | none => none)
  else none) else none
def cConst : Const → Option EvD
  | .int i => some (eC (.int i))
  | .bool b => some (eC (.bl b))
  | .none => some (eC .non)
  | .str s => some (eC (.str s))
  | _ => none
def cBin (c : Cmp) (Γ : Gm) (a : Expr) (op : Operator) (b : Expr) : Option EvD := match opB op, c.e Γ a, c.e Γ b with
  | some o, some fa, some fb => some (eBin o fa fb)
  | _, _, _ => none
def cCmp (c : Cmp) (Γ : Gm) (a : Expr) : List CmpOp → List Expr → Option EvD
  | [op], [b] => (match c.e Γ a, c.e Γ b, behindInMarks op b with
    | some fa, some fb, false => some (eBin (opC op) fa fb)
    | _, _, _ => none)
  | [op, op'], [b, d] => (match c.e Γ a, c.e Γ b, c.e Γ d, lastMarks [op, op'] [b, d] with
    | some fa, some fb, some fc, false => some (eChain (opC op) (opC op') fa fb fc)
    | _, _, _, _ => none)
  | _, _ => none
def cBool (c : Cmp) (Γ : Gm) (op : BoolOp) (pos : Pos) : List Expr → Option EvD
  | [a] => c.e Γ a
  | a :: b :: r => (match op, c.e Γ a, c.e Γ (.BoolOp op (b :: r) pos) with
    | .And, some f, some k => some (eAnd f k)
    | .Or, some f, some k => some (eOr f k)
    | _, _, _ => none)
  | [] => none
def boolT : BoolOp → Option EvB → Option EvB → Option EvB
  | .And, some f, some k => some (bAnd f k)
  | .Or, some f, some k => some (bOr f k)
  | _, _, _ => none
def cBoolT (c : Cmp) (Γ : Gm) (op : BoolOp) : List Expr → Option EvB
  | [] => none
  | [a] => c.t Γ a
  | a :: b :: r => boolT op (c.t Γ a) (cBoolT c Γ op (b :: r))
/-- a slice's end -/
def cO (c : Cmp) (Γ : Gm) : Option Expr → Option EvO
  | none => some sNone
  | some e => (match c.e Γ e with
    | some f => some (sSome f)
    | none => none)
def plainIx : Expr → Bool
  | .Slice .. => false
  | _ => true
def cSub (c : Cmp) (Γ : Gm) (a : Expr) : Expr → Option EvD
  | .Slice lo hi none _ => (match c.e Γ a, cO c Γ lo, cO c Γ hi with
    | some fa, some fl, some fh => some (eSl fa fl fh)
    | _, _, _ => none)
  | b => (match c.e Γ a, c.e Γ b, plainIx b with
    | some fa, some fb, true => some (eBin oIx fa fb)
    | _, _, _ => none)
def tyS (x : Str) : Option String := if x = "int" then some "int" else if x = "str" then some "str" else if x = "tuple" then some "tuple" else if x = "bool" then some "bool" else if x = "list" then some "list" else none
def cIsi (c : Cmp) (Γ : Gm) : List Expr → Option EvD
  | [e, .Name y _] => (match c.e Γ e, tyS y, noStar e, isGl Γ.sc y with
    | some f, some T, true, true => some (eIsi T f)
    | _, _, _, _ => none)
  | _ => none
def cCallN (c : Cmp) (Γ : Gm) (x : Str) : List Expr → Option EvD
  | [] => if okName x = true ∧ isGl Γ.sc x = true then (match assoc x Γ.fns with
    | some (0, F) => some (eCall 0 F aNil)
    | _ => none) else none
  | e :: es => if okName x = true ∧ isGl Γ.sc x = true ∧ (e :: es).all noStar = true then (match assoc x Γ.fns with
    | some (n, F) => (match c.a Γ (e :: es) with
      | some fs => some (eCall n F fs)
      | none => none)
    | none => if x = "isinstance" then cIsi c Γ (e :: es) else (match bltO x, c.a Γ (e :: es) with
      | some o, some fs => some (eCB o fs)
      | _, _ => none)) else none
def cCallM (c : Cmp) (Γ : Gm) (o : Expr) (name : Str) (l1 l2 : Nat) : List Expr → Option EvD
  | [] => none
  | e :: es => if (e :: es).all noStar = true ∧ decide ((e :: es).length < 30) = true ∧ isCall o = false ∧ (l1 == l2) = true then (match c.e Γ o, c.a Γ (e :: es) with
    | some fo, some fs => mtO name fo fs
    | _, _ => none) else none
def relG (Γ : Gm) (scope : Scope) : Gm := { Γ with sc := relS scope Γ.sc, stc := fun x => scope.names.lookup x == some .cell }
def ownOf (N : List Str) : List (Str × NameKind) → List (Str × Nat)
  | [] => []
  | (y, k) :: r => match k, idx y N with
    | .local, some i => (y, i) :: ownOf N r
    | .cell, some i => (y, i) :: ownOf N r
    | _, _ => ownOf N r
def cIfs (c : Cmp) (Γ : Gm) : List Expr → Option EvB
  | [] => some bYes
  | [e] => c.t Γ e
  | _ => none
def isSet : Expr → Bool
  | .Set .. => true
  | _ => false
def cLc (c : Cmp) (Γ : Gm) (elt : Expr) (scope : Scope) : List Comprehension → Option EvD
  | [⟨tg, iter, ifs, 0⟩] => if blkC Γ.N Γ.sc scope (ownOf Γ.N scope.names) = true ∧ isSet iter = false then (match c.i Γ tg iter, c.g (relG Γ scope) tg, cIfs c (relG Γ scope) ifs, c.e (relG Γ scope) elt with
    | some fi, some t, some fif, some fe => some (eLc t ((ownOf Γ.N scope.names).map (·.2)) fi fif fe)
    | _, _, _, _ => none) else none
  | _ => none
def stE (c : Cmp) (Γ : Gm) : Expr → Option EvD
  | .Constant v _ _ => cConst v
  | .Name x _ => cName Γ x
  | .BinOp a op b _ => cBin c Γ a op b
  | .Compare a ops bs _ => cCmp c Γ a ops bs
  | .BoolOp op es pos => cBool c Γ op pos es
  | .UnaryOp .Not a _ => (match c.e Γ a with
    | some f => some (eNot f)
    | none => none)
  | .UnaryOp .USub a _ => (match c.e Γ a with
    | some f => some (eNeg f)
    | none => none)
  | .IfExp t a b _ => (match c.t Γ t, c.e Γ a, c.e Γ b with
    | some ft, some fa, some fb => some (eIf ft fa fb)
    | _, _, _ => none)
  | .Tuple es _ _ => (match c.a Γ es with
    | some fs => some (eTup fs)
    | none => none)
  | .List es _ => (match c.a Γ es with
    | some fs => some (eLst fs)
    | none => none)
  | .Subscript a b _ => cSub c Γ a b
  | .Call (.Name x _) args [] _ => cCallN c Γ x args
  | .Call (.Attribute o name apos) args [] pos => cCallM c Γ o name apos.endLine pos.line args
  | .ListComp elt gs scope _ => cLc c Γ elt scope gs
  | _ => none
/-- a test that is no and, or, not, if, comparison -/
def plainT : Expr → Bool
  | .UnaryOp .. => false
  | .BoolOp .. => false
  | .IfExp .. => false
  | .Compare .. => false
  | _ => true
theorem plainT_ok {e : Expr} {env : Env} (h : plainT e = true) (wh : Sem Value) : PySem.isTrue e env wh = (do let v ← wh; standAt e.pos; holding [v] (truthy v)) := by
  cases e <;> first | rfl | cases h
def stT (c : Cmp) (Γ : Gm) : Expr → Option EvB
  | .UnaryOp .Not a _ => (match c.t Γ a with
    | some f => some (bNot f)
    | none => none)
  | .BoolOp op es _ => cBoolT c Γ op es
  | .Compare a ops bs _ => (match cCmp c Γ a ops bs with
    | some f => some (bOf f)
    | none => none)
  | e => if plainT e = true then (match c.e Γ e with
    | some f => some (bTru f)
    | none => none) else none
section
variable {c : Cmp} (S : Snd c) {X : Cx} {k : Nat} {Γ : Gm} (C : CtxOk X k Γ)
include S C
omit S in
theorem cName_ok {x : Str} {pos : Pos} {f : EvD} (h : cName Γ x = some f) : PEv X (.Name x pos) f := by
  unfold cName at h
  split at h
  · rename_i hn
    split at h
    · rename_i hv
      split at h
      · rename_i i hi
        cases h
        exact pv_var (by rw [C.N]; exact idx_ok hi) (vis_ok C hv) (okName_1 hn) (okName_2 hn)
      · cases h
    · split at h
      · rename_i hg
        split at h
        · rename_i p hp
          cases h
          obtain ⟨u, v, h1, h2, h3⟩ := C.cst _ _ (assoc_ok hp)
          exact pv_glob (gl_ok C hg) h1 h2 h3 (okName_1 hn)
        · cases h
      · cases h
  · cases h
omit S C in
theorem cConst_ok {v : Const} {j : Nat} {pos : Pos} {f : EvD} (h : cConst v = some f) : PEv X (.Constant v j pos) f := by
  unfold cConst at h
  split at h
  · cases h; exact pv_int
  · cases h; exact pv_bl
  · cases h; exact pv_non
  · cases h; exact pv_str
  · cases h
theorem cBin_ok {a b : Expr} {op : Operator} {pos : Pos} {f : EvD} (h : cBin c Γ a op b = some f) : PEv X (.BinOp a op b pos) f := by
  unfold cBin at h
  split at h
  · rename_i h1 h2 h3
    cases h
    exact pv_bin (opB_ok h1) (S.e C h2) (S.e C h3)
  · cases h
theorem cCmp_ok {a : Expr} {ops : List CmpOp} {bs : List Expr} {pos : Pos} {f : EvD} (h : cCmp c Γ a ops bs = some f) : PEv X (.Compare a ops bs pos) f ∧ PTv X (.Compare a ops bs pos) (bOf f) := by
  unfold cCmp at h
  split at h
  · split at h
    · rename_i h1 h2 h3
      cases h
      exact ⟨pv_cmp (opC_ok C _) (S.e C h1) (S.e C h2) h3, ptv_cmp (opC_ok C _) (S.e C h1) (S.e C h2) h3⟩
    · cases h
  · split at h
    · rename_i h1 h2 h3 h4
      cases h
      exact ⟨pv_chain (opC_ok C _) (opC_ok C _) (S.e C h1) (S.e C h2) (S.e C h3) h4, ptv_chain (opC_ok C _) (opC_ok C _) (S.e C h1) (S.e C h2) (S.e C h3) h4⟩
    · cases h
  · cases h
theorem cO_ok {e : Option Expr} {f : EvO} (h : cO c Γ e = some f) : POv X e f := by
  unfold cO at h
  split at h
  · cases h; exact pov_none
  · split at h
    · rename_i h1; cases h; exact pov_some (S.e C h1)
    · cases h
omit S C in
theorem plainIx_ok {b : Expr} (h : plainIx b = true) : PlainIx b := by
  intro o i
  cases b <;> first | rfl | cases h
theorem cSub_ok {a b : Expr} {pos : Pos} {f : EvD} (h : cSub c Γ a b = some f) : PEv X (.Subscript a b pos) f := by
  unfold cSub at h
  split at h
  · split at h
    · rename_i h1 h2 h3
      cases h
      exact pv_slice (S.e C h1) (cO_ok S C h2) (cO_ok S C h3)
    · cases h
  · split at h
    · rename_i h1 h2 h3
      cases h
      exact pv_ix (S.e C h1) (S.e C h2) (plainIx_ok h3)
    · cases h
omit S in
theorem tyS_ok {x : Str} {T : String} (h : tyS x = some T) : tyOk T = true ∧ bootBuiltins x = some (.type T) ∧ X.mg x = none ∧ x ≠ "__name__" ∧ (x == ("__debug__" : Str)) = false := by
  unfold tyS at h
  split at h
  · rename_i e; subst e; cases h; exact ⟨by decide, by decide +kernel, C.blt _ (by decide), by decide, by decide⟩
  split at h
  · rename_i e; subst e; cases h; exact ⟨by decide, by decide +kernel, C.blt _ (by decide), by decide, by decide⟩
  split at h
  · rename_i e; subst e; cases h; exact ⟨by decide, by decide +kernel, C.blt _ (by decide), by decide, by decide⟩
  split at h
  · rename_i e; subst e; cases h; exact ⟨by decide, by decide +kernel, C.blt _ (by decide), by decide, by decide⟩
  split at h
  · rename_i e; subst e; cases h; exact ⟨by decide, by decide +kernel, C.blt _ (by decide), by decide, by decide⟩
  cases h
theorem cCallN_ok {x : Str} {es : List Expr} {p pos : Pos} {f : EvD} (h : cCallN c Γ x es = some f) : PEv X (.Call (.Name x p) es [] pos) f := by
  unfold cCallN at h
  split at h
  · split at h
    · rename_i hn
      split at h
      · rename_i F hF
        cases h
        exact pv_call0 (C.fns _ _ _ (assoc_ok hF)) C.room (gl_ok C hn.2) (okName_1 hn.1)
      · cases h
    · cases h
  · rename_i e es
    split at h
    · rename_i hn
      obtain ⟨h1, h2, h3⟩ := hn
      have h4 := h3
      rw [List.all_cons, Bool.and_eq_true] at h4
      split at h
      · rename_i n F hF
        split at h
        · rename_i fs hfs
          cases h
          exact pv_call (C.fns _ _ _ (assoc_ok hF)) C.room (gl_ok C h2) (S.a C hfs) (okName_1 h1) (star_of h4.1) (back_none h4.2)
        · cases h
      · split at h
        · rename_i ex
          subst ex
          unfold cIsi at h
          split at h
          · rename_i heq
            split at h
            · rename_i k1 k2 k3 k4
              cases heq
              cases h
              obtain ⟨q1, q2, q3, q4, q5⟩ := tyS_ok C k2
              exact pv_isi (gl_ok C h2) (C.blt _ (by decide)) q1 (gl_ok C k4) q3 q2 q4 q5 (S.e C k1) (star_of k3)
            · cases h
          · cases h
        · split at h
          · rename_i k1 k2
            cases h
            exact bltO_ok C k1 h2 (S.a C k2) h3
          · cases h
    · cases h
theorem cCallM_ok {o : Expr} {name : Str} {es : List Expr} {apos pos : Pos} {f : EvD} (h : cCallM c Γ o name apos.endLine pos.line es = some f) : PEv X (.Call (.Attribute o name apos) es [] pos) f := by
  unfold cCallM at h
  split at h
  · cases h
  · split at h
    · rename_i hh
      obtain ⟨h1, h2, h3, h4⟩ := hh
      split at h
      · rename_i k1 k2
        exact mtO_ok C h (S.e C k1) (S.a C k2) h1 h2 h3 h4
      · cases h
    · cases h
omit S in
theorem rel_ok {scope : Scope} (h1 : scope.kind = .function) (s : Shared) (H : Hp) (Ca : Addr) (cl : List (Str × Addr)) (fp : List Addr) : CtxOk (X.blk s H scope (compEnvC scope cl Ca X.env) fp) k (relG Γ scope) where
  N := C.N
  nd := C.nd
  sc := by
    show relS scope X.env.scope = relS scope Γ.sc
    rw [C.sc]
  kind := h1
  calm := C.calm
  room := C.room
  fns := C.fns
  cst := C.cst
  fn := fun x hx => hx
  blt := C.blt
  exc := C.exc
omit S in
theorem isSet_ok {e : Expr} {env : Env} (h : isSet e = false) : ∀ x, foldedSetIterable e env x = pure x := by
  intro x
  cases e <;> first | rfl | cases h
theorem cIfs_ok {es : List Expr} {f : EvB} (h : cIfs c Γ es = some f) : PTsv X es f := by
  unfold cIfs at h
  split at h
  · cases h; exact ptsv_nil
  · exact ptsv_one (S.t C h)
  · cases h
omit S C in
theorem blkC_kind {N : List Str} {sc scope : Scope} {own} (h : blkC N sc scope own = true) : scope.kind = .function := (blkOk_by h).kind
theorem cLc_ok {elt : Expr} {gs : List Comprehension} {scope : Scope} {pos : Pos} {f : EvD} (h : cLc c Γ elt scope gs = some f) : PEv X (.ListComp elt gs scope pos) f := by
  unfold cLc at h
  split at h
  · split at h
    · rename_i hh
      obtain ⟨h1, h2⟩ := hh
      split at h
      · rename_i k1 k2 k3 k4
        cases h
        have kd := blkC_kind h1
        refine pv_lc C.calm (by rw [C.N]; exact C.nd) (S.i C k1) (by rw [C.N, C.sc]; exact blkOk_by h1) (fun s H Ca cl fp => S.g (rel_ok C kd s H Ca cl fp) k2) (fun s H Ca cl fp => cIfs_ok S (rel_ok C kd s H Ca cl fp) k3)
          (fun s H Ca cl fp => S.e (rel_ok C kd s H Ca cl fp) k4) (isSet_ok C h2)
      · cases h
    · cases h
  · cases h
end
end Ev

set_option Elab.async false
set_option linter.all false
set_option maxRecDepth 100000
set_option maxHeartbeats 4000000
/-! Core13: from the text to the combinators: statements. -/
namespace Ev
open PySem PySem.Spec PyProof.Rows L2

/-- code that is not reached -/
def sNo : EvS := fun _ _ => .no
theorem psv_no {X : Cx} {s : Stmt} : PSv X s sNo := fun W tk => PS.imp ps_never fun D τ H ⟨σ, M, mu, s, st, h⟩ => h.elim
/-! ### what is walked -/
def isTup : Expr → Bool
  | .Tuple .. => true
  | _ => false
def cItC (c : Cmp) (Γ : Gm) (tg : Expr) (x : Str) : List Expr → Option EvI
  | [e] => if x = "range" then (if isGl Γ.sc x = true ∧ noStar e = true then (match c.a Γ [e] with
      | some fs => some (iRange1 fs)
      | none => none) else none)
    else if x = "enumerate" then (if isGl Γ.sc x = true ∧ noStar e = true ∧ isTup tg = true then (match c.a Γ [e] with
      | some fs => some (iEnum fs)
      | none => none) else none)
    else none
  | [e, e2] => if x = "range" then (if isGl Γ.sc x = true ∧ noStar e = true ∧ noStar e2 = true then (match c.a Γ [e, e2] with
      | some fs => some (iRange2 fs)
      | none => none) else none)
    else if x = "zip" then (if isGl Γ.sc x = true ∧ noStar e = true ∧ noStar e2 = true ∧ isTup tg = true then (match c.a Γ [e, e2] with
      | some fs => some (iZip fs)
      | none => none) else none)
    else none
  | _ => none
def isIt (x : Str) : Bool := decide (x = "range") || decide (x = "enumerate") || decide (x = "zip")
def stI (c : Cmp) (Γ : Gm) (tg : Expr) : Expr → Option EvI
  | .Call (.Name x p) es [] pos => if isIt x = true then cItC c Γ tg x es else (match c.e Γ (.Call (.Name x p) es [] pos) with
    | some f => some (iOf f)
    | none => none)
  | e => (match c.e Γ e with
    | some f => some (iOf f)
    | none => none)
def stG (c : Cmp) (Γ : Gm) : Expr → Option Tg
  | .Name x _ => if isLoc Γ x = true then (match idx x Γ.N with
    | some i => some (.nm i)
    | none => none) else none
  | .Tuple es _ _ => if es.all noStar = true then (match c.gs Γ es with
    | some ts => some (.tu ts)
    | none => none) else none
  | _ => none
def stGs (c : Cmp) (Γ : Gm) : List Expr → Option (List Tg)
  | [] => some []
  | e :: es => (match c.g Γ e, c.gs Γ es, noStar e with
    | some t, some ts, true => some (t :: ts)
    | _, _, _ => none)

/-! ### assignments -/
def notComp : Expr → Bool
  | .ListComp .. => false
  | .SetComp .. => false
  | .DictComp .. => false
  | _ => true
def isSeqE : Expr → Bool
  | .Tuple .. => true
  | .List .. => true
  | _ => false
def cSet (Γ : Gm) (x : Str) (i : Nat) (f : EvD) : EvS := if Γ.mu.contains x = true then sSetM i f else sSet i f
/-- the names of a plain tuple of local names on one line -/
def parN (Γ : Gm) (l : Nat) : List Expr → Option (List Str)
  | [] => some []
  | .Name x p :: r => if isLcl Γ.sc x = true ∧ (p.line == l) = true then (match parN Γ l r with
    | some xs => some (x :: xs)
    | none => none) else none
  | _ => none
def isLclE (Γ : Gm) : Expr → Bool
  | .Name x _ => isLcl Γ.sc x
  | _ => false
def cAsg (c : Cmp) (Γ : Gm) : Expr → Expr → Nat → Option EvS
  | .Name x p, .ListComp elt gs scope lp, _ => if isLcl Γ.sc x = true ∧ (p.line == lp.line) = true ∧ (scope.names.any fun (n, k) => n == x && (k == .local || k == .cell)) = false then (match idx x Γ.N, cLc c Γ elt scope gs with
      | some i, some f => some (cSet Γ x i f)
      | _, _ => none) else none
  | .Name x _, e, _ => if isLoc Γ x = true ∧ notComp e = true then (match idx x Γ.N, c.e Γ e with
      | some i, some f => some (cSet Γ x i f)
      | _, _ => none) else none
  | .Tuple ts k tp, .Tuple vs k2 p2, _ => if ts.length = 2 ∨ ts.length = 3 then
      (if vs.all (foldedForSure 8) = true then (match c.g Γ (.Tuple ts k tp), c.e Γ (.Tuple vs k2 p2) with
        | some t, some f => some (sUnp t f)
        | _, _ => none)
      else if ts.all (isLclE Γ) = false then (match c.g Γ (.Tuple ts k tp), c.e Γ (.Tuple vs k2 p2) with
        | some t, some f => some (sUnp t f)
        | _, _ => none)
      else if vs.all (constantsAlone 8) = true then none
      else match ts, vs with
        | [.Name x px, .Name y py], [a, b] => if isLcl Γ.sc x = true ∧ isLcl Γ.sc y = true ∧ (px.line == py.line) = true ∧ decide (x = y) = false ∧ noStar a = true ∧ noStar b = true then (match idx x Γ.N, idx y Γ.N, c.a Γ [a, b] with
          | some i, some j, some fs => some (sPar [i, j] fs)
          | _, _, _ => none) else none
        | [.Name x px, .Name y py, .Name z pz], [a, b, d] => if isLcl Γ.sc x = true ∧ isLcl Γ.sc y = true ∧ isLcl Γ.sc z = true ∧ (px.line == py.line) = true ∧ (px.line == pz.line) = true ∧ decide (x = y) = false ∧ decide (x = z) = false ∧ decide (y = z) = false ∧ noStar a = true ∧ noStar b = true ∧ noStar d = true then (match idx x Γ.N, idx y Γ.N, idx z Γ.N, c.a Γ [a, b, d] with
          | some i, some j, some l, some fs => some (sPar [i, j, l] fs)
          | _, _, _, _ => none) else none
        | _, _ => none)
    else (match c.g Γ (.Tuple ts k tp), c.e Γ (.Tuple vs k2 p2) with
      | some t, some f => some (sUnp t f)
      | _, _ => none)
  | .Tuple ts k tp, e, _ => if isSeqE e = false then (match c.g Γ (.Tuple ts k tp), c.e Γ e with
      | some t, some f => some (sUnp t f)
      | _, _ => none) else none
  | .Subscript o i _, e, _ => if plainIx i = true ∧ notComp e = true then (match c.e Γ e, c.e Γ o, c.e Γ i with
      | some fv, some fo, some fi => some (sSub fv fo fi)
      | _, _, _ => none) else none
  | _, _, _ => none
def stS (c : Cmp) (Γ : Gm) : Stmt → Option EvS
  | .Expr e _ => if notComp e = true then (match c.e Γ e with
    | some f => some (sExpr f)
    | none => none) else none
  | .Return (some e) _ => (match c.e Γ e with
    | some f => some (sRet f)
    | none => none)
  | .Return none _ => some sRetN
  | .Pass _ => some sNil
  | .Break _ => some sBk
  | .Continue _ => some sCt
  | .If t a b _ => (match c.t Γ t, c.ss Γ a, c.ss Γ b with
    | some ft, some fa, some fb => some (sIf ft fa fb)
    | _, _, _ => none)
  | .While t a [] _ => (match c.t Γ t, c.ss Γ a with
    | some ft, some fa => some (sWhile ft fa)
    | _, _ => none)
  | .For tg it a [] _ => (match c.g Γ tg, c.i Γ tg it, c.ss Γ a, isSet it with
    | some t, some fi, some fa, false => some (sFor t fi fa)
    | _, _, _, _ => none)
  | .Assign [t] e pos => cAsg c Γ t e pos.line
  | .AugAssign (.Name x _) op e _ => (match opI op, c.e Γ e, idx x Γ.N, isLoc Γ x with
    | some o, some f, some i, true => some (sAug i o f)
    | _, _, _, _ => none)
  | .Raise (some (.Call (.Name x _) [.Constant (.str _) _ _] [] _)) none _ => if Γ.exc.contains x = true ∧ isGl Γ.sc x = true ∧ okName x = true then some (sRaise x) else some sNo
  | _ => none
def stSs (c : Cmp) (Γ : Gm) : List Stmt → Option EvS
  | [] => some sNil
  | s :: r => (match c.s Γ s, c.ss Γ r with
    | some f, some k => some (sSeq f k)
    | _, _ => none)
def cmp0 : Cmp := ⟨fun _ _ => none, fun _ _ => none, fun _ _ => none, fun _ _ _ => none, fun _ _ => none, fun _ _ => none, fun _ _ => none, fun _ _ => none⟩
def stp (c : Cmp) : Cmp := ⟨stE c, cA c, stT c, stI c, stG c, stGs c, stS c, stSs c⟩
def cmp : Nat → Cmp
  | 0 => cmp0
  | n + 1 => stp (cmp n)
def isStar : Expr → Bool
  | .Starred .. => true
  | _ => false
section
variable {c : Cmp} (S : Snd c) {X : Cx} {k : Nat} {Γ : Gm} (C : CtxOk X k Γ)
include S C
theorem stE_ok {e : Expr} {f : EvD} (h : stE c Γ e = some f) : PEv X e f := by
  unfold stE at h
  split at h
  · exact cConst_ok h
  · exact cName_ok C h
  · exact cBin_ok S C h
  · exact (cCmp_ok S C h).1
  · unfold cBool at h
    split at h
    · exact pv_one (S.e C h)
    · split at h
      · rename_i k1 k2; cases h; exact pv_and (S.e C k1) (S.e C k2)
      · rename_i k1 k2; cases h; exact pv_or (S.e C k1) (S.e C k2)
      · cases h
    · cases h
  · split at h
    · rename_i k1; cases h; exact pv_not (S.e C k1)
    · cases h
  · split at h
    · rename_i k1; cases h; exact pv_neg (S.e C k1)
    · cases h
  · split at h
    · rename_i k1 k2 k3; cases h; exact pv_ifExp (S.t C k1) (S.e C k2) (S.e C k3)
    · cases h
  · split at h
    · rename_i k1; cases h; exact pv_tup (S.a C k1)
    · cases h
  · split at h
    · rename_i k1; cases h; exact pv_lst (S.a C k1)
    · cases h
  · exact cSub_ok S C h
  · exact cCallN_ok S C h
  · exact cCallM_ok S C h
  · exact cLc_ok S C h
  · cases h
theorem stT_ok {e : Expr} {f : EvB} (h : stT c Γ e = some f) : PTv X e f := by
  unfold stT at h
  split at h
  · split at h
    · rename_i k1; cases h; exact ptv_not (S.t C k1)
    · cases h
  · rename_i op es pos
    refine ptv_of_w ?_
    have key : ∀ (es : List Expr) (f : EvB), cBoolT c Γ op es = some f → PWv X (.BoolOp op es pos) f := by
      intro es
      induction es with
      | nil => intro f h; cases h
      | cons a r ih =>
        intro f h
        cases r with
        | nil =>
          have h : c.t Γ a = some f := h
          cases op with
          | And => exact pwv_and1 (S.t C h)
          | Or => exact pwv_or1 (S.t C h)
        | cons b r =>
          have h : boolT op (c.t Γ a) (cBoolT c Γ op (b :: r)) = some f := h
          revert h
          cases k1 : c.t Γ a with
          | none => intro h; cases op <;> cases h
          | some f1 =>
            cases k2 : cBoolT c Γ op (b :: r) with
            | none => intro h; cases op <;> cases h
            | some f2 =>
              intro h
              cases op with
              | And => cases h; exact pwv_and (S.t C k1) (ih _ k2)
              | Or => cases h; exact pwv_or (S.t C k1) (ih _ k2)
    exact key es f h
  · split at h
    · rename_i k1; cases h; exact (cCmp_ok S C k1).2
    · cases h
  · split at h
    · rename_i hp
      split at h
      · rename_i k1
        cases h
        exact ptv_tru (S.e C k1) fun wh => plainT_ok hp wh
      · cases h
    · cases h
theorem stI_ok {tg e : Expr} {f : EvI} (h : stI c Γ tg e = some f) : PIv X tg e f := by
  unfold stI at h
  split at h
  · split at h
    · unfold cItC at h
      split at h
      · split at h
        · rename_i ex
          subst ex
          split at h
          · rename_i hh
            split at h
            · rename_i k1; cases h
              exact piv_range1 (gl_ok C hh.1) (C.blt _ (by decide)) (S.a C k1) (star_of hh.2)
            · cases h
          · cases h
        · split at h
          · rename_i ex
            subst ex
            split at h
            · rename_i hh
              split at h
              · rename_i k1; cases h
                have ht := hh.2.2
                cases tg <;> try cases ht
                exact piv_enum (gl_ok C hh.1) (C.blt _ (by decide)) (S.a C k1) (star_of hh.2.1)
              · cases h
            · cases h
          · cases h
      · split at h
        · rename_i ex
          subst ex
          split at h
          · rename_i hh
            split at h
            · rename_i k1; cases h
              exact piv_range2 (gl_ok C hh.1) (C.blt _ (by decide)) (S.a C k1) (by rw [star_of hh.2.1, star_of hh.2.2]; rfl) (star_of hh.2.2)
            · cases h
          · cases h
        · split at h
          · rename_i ex
            subst ex
            split at h
            · rename_i hh
              split at h
              · rename_i k1; cases h
                have ht := hh.2.2.2
                cases tg <;> try cases ht
                exact piv_zip (gl_ok C hh.1) (C.blt _ (by decide)) (S.a C k1) (star_of hh.2.1) (back_none (by rw [List.all_cons, hh.2.2.1]; rfl))
              · cases h
            · cases h
          · cases h
      · cases h
    · split at h
      · rename_i k1; cases h; exact piv_of (S.e C k1)
      · cases h
  · split at h
    · rename_i k1; cases h; exact piv_of (S.e C k1)
    · cases h
omit S C in
theorem asg_of {e : Expr} {es : List Expr} {env : Env} (h : noStar e = true) : assignEach (e :: es) env = (false, assign e env) :: assignEach es env := by
  cases e <;> first | rfl | cases h
omit S C in
theorem asg_len {es : List Expr} {env : Env} (h : es.all noStar = true) : (assignEach es env).length = es.length ∧ (assignEach es env).findIdx? (·.1) = none := by
  induction es with
  | nil => exact ⟨rfl, rfl⟩
  | cons e r ih =>
    rw [List.all_cons, Bool.and_eq_true] at h
    obtain ⟨h1, h2⟩ := ih h.2
    rw [asg_of h.1]
    refine ⟨by simp [h1], ?_⟩
    rw [List.findIdx?_cons, h2]; rfl
theorem stG_ok {e : Expr} {t : Tg} (h : stG c Γ e = some t) : PGv X e t := by
  unfold stG at h
  split at h
  · split at h
    · rename_i hl
      split at h
      · rename_i k1; cases h
        obtain ⟨h1, h2⟩ := loc_ok C hl
        exact pgv_name (by rw [C.N]; exact C.nd) (by rw [C.N]; exact idx_ok k1) h1 h2
      · cases h
    · cases h
  · split at h
    · rename_i hl
      split at h
      · rename_i k1; cases h
        obtain ⟨h1, h2⟩ := asg_len (env := X.env) hl
        exact pgv_tup C.calm (S.gs C k1) (by rw [h1, S.gl k1]) h2
      · cases h
    · cases h
  · cases h
theorem stGs_ok {es : List Expr} {ts : List Tg} (h : stGs c Γ es = some ts) : PGsv X es ts := by
  unfold stGs at h
  split at h
  · cases h; exact pgsv_nil
  · split at h
    · rename_i k1 k2 k3; cases h
      exact pgsv_cons (S.g C k1) (S.gs C k2) (by rw [asg_of k3]; rfl)
    · cases h
omit C in
theorem stGs_len {es : List Expr} {ts : List Tg} (h : stGs c Γ es = some ts) : ts.length = es.length := by
  unfold stGs at h
  split at h
  · cases h; rfl
  · split at h
    · rename_i k1 k2 k3; cases h
      rw [List.length_cons, List.length_cons, S.gl k2]
    · cases h
omit S C in
theorem sw_no {e : Expr} {t : Option Expr} {l : Nat} {env : Env} (h : notComp e = true) : swapsWith e t l env = pure false := by
  cases e <;> first | rfl | cases h
omit S C in
theorem sw_tup {e : Expr} {ts : List Expr} {k : Nat} {p : Pos} {l : Nat} {env : Env} : swapsWithSole [.Tuple ts k p] e l env = pure false := by
  show swapsWith e (some (.Tuple ts k p)) l env = pure false
  cases e <;> rfl
omit S C in
theorem sw_sub {e : Expr} {o i : Expr} {p : Pos} {l : Nat} {env : Env} (h : notComp e = true) : swapsWithSole [.Subscript o i p] e l env = pure false := by
  show swapsWith e (some (.Subscript o i p)) l env = pure false
  exact sw_no h
omit S C in
theorem st_len {ts vs : List Expr} {k k2 : Nat} {p p2 : Pos} {env : Env} (h : ¬ (ts.length = 2 ∨ ts.length = 3)) : swappedStores [.Tuple ts k p] (.Tuple vs k2 p2) env = pure none := by
  unfold swappedStores
  have e : (ts.length == 2 || ts.length == 3) = false := by
    simp only [Bool.or_eq_false_iff, beq_eq_false_iff_ne]
    exact ⟨fun z => h (.inl z), fun z => h (.inr z)⟩
  simp only [e]
  rfl
omit S C in
theorem st_fold {ts vs : List Expr} {k k2 : Nat} {p p2 : Pos} {env : Env} (h : vs.all (foldedForSure 8) = true) : swappedStores [.Tuple ts k p] (.Tuple vs k2 p2) env = pure none := by
  unfold swappedStores
  simp only [h]
  split
  · rfl
  · split
    · rfl
    · split
      · rfl
      · rfl
omit S C in
theorem filt_lt {α β : Type} {f : α → Option β} : ∀ {l : List α}, (∃ a ∈ l, f a = none) → (l.filterMap f).length < l.length
  | [], h => by obtain ⟨a, h, _⟩ := h; cases h
  | b :: r, h => by
    rw [List.filterMap_cons]
    have le : (r.filterMap f).length ≤ r.length := List.length_filterMap_le ..
    cases e : f b with
    | none => simp; omega
    | some c =>
      simp
      obtain ⟨a, ha, hf⟩ := h
      rcases List.mem_cons.mp ha with z | z
      · rw [z, e] at hf; cases hf
      · exact ⟨a, z, hf⟩
omit S in
theorem st_cell {ts vs : List Expr} {k k2 : Nat} {p p2 : Pos} (h : ts.all (isLclE Γ) = false) : swappedStores [.Tuple ts k p] (.Tuple vs k2 p2) X.env = pure none := by
  unfold swappedStores
  dsimp only
  split
  · rfl
  · split
    · rfl
    · rw [if_pos]
      rw [Bool.or_eq_true]
      left
      rw [bne_iff_ne]
      refine Nat.ne_of_lt (filt_lt ?_)
      have h2 : ∃ t ∈ ts, isLclE Γ t = false := by
        have : ¬ ∀ t ∈ ts, isLclE Γ t = true := fun z => by rw [List.all_eq_true.mpr z] at h; cases h
        obtain ⟨t, ht⟩ := Classical.not_forall.mp this
        obtain ⟨h1, h2⟩ := Classical.not_imp.mp ht
        exact ⟨t, h1, by cases q : isLclE Γ t with | true => exact absurd q h2 | false => rfl⟩
      obtain ⟨t, ht, hl⟩ := h2
      refine ⟨t, ht, ?_⟩
      cases t with
      | Name x px =>
        have hx : isLcl Γ.sc x = false := hl
        show (if (X.env.kindOf x == some .local && _) = true then some x else none) = none
        have : (X.env.kindOf x == some .local) = false := by
          rw [beq_eq_false_iff_ne]
          intro z
          have z : X.env.scope.names.lookup x = some .local := z
          rw [C.sc] at z
          unfold isLcl at hx
          rw [z] at hx
          cases hx
        rw [this]
        rfl
      | _ => rfl
omit S C in
theorem st_other {ts : List Expr} {e : Expr} {k : Nat} {p : Pos} {env : Env} (h : isSeqE e = false) : swappedStores [.Tuple ts k p] e env = pure none := by
  unfold swappedStores
  cases e <;> first | rfl | cases h
omit S C in
theorem star1 {e : Expr} (h : noStar e = true) : isStar e = false := by
  cases e <;> first | rfl | cases h
omit S in
theorem st_par2 {x y : Str} {a b : Expr} {k k2 : Nat} {px py p p2 : Pos} (h1 : isLcl Γ.sc x = true) (h2 : isLcl Γ.sc y = true) (hl : (px.line == py.line) = true) (hd : decide (x = y) = false) (ha : noStar a = true) (hb : noStar b = true)
    (hf : ¬ [a, b].all (foldedForSure 8) = true) (hc : ¬ [a, b].all (constantsAlone 8) = true) : swappedStores [.Tuple [.Name x px, .Name y py] k p] (.Tuple [a, b] k2 p2) X.env = pure (some [x, y]) := by
  have kx : X.env.kindOf x = some .local := lcl_ok C h1
  have ky : X.env.kindOf y = some .local := lcl_ok C h2
  have hk : X.env.blockKind = .function := by
    unfold Env.blockKind; rw [show X.env.scope.kind = .function by rw [C.sc]; exact C.kind]; rfl
  have hxy : x ≠ y := of_decide_eq_false hd
  have hl2 : (py.line == px.line) = true := by rw [beq_iff_eq] at hl ⊢; exact hl.symm
  have sa := star1 ha
  have sb := star1 hb
  unfold swappedStores
  simp only [List.any_cons, List.any_nil, hk, List.filterMap_cons, List.filterMap_nil, kx, ky, List.head?_cons, Option.map_some, Option.getD_some, Expr.pos, hl2, beq_self_eq_true, Bool.and_self, if_true, List.length_cons, List.length_nil, hf, hc, Bool.or_self, Bool.or_false]
  have h3 : ([x, y].eraseDups.length != 0 + 1 + 1) = false := by
    simp [List.eraseDups_cons, hxy, Ne.symm hxy]
  refine (if_neg (by decide)).trans ((if_neg (show ¬ (isStar a || isStar b) = true by rw [sa, sb]; decide)).trans ((if_neg (by rw [h3]; decide)).trans ?_))
  rfl
omit S in
theorem st_par3 {x y z : Str} {a b d : Expr} {k k2 : Nat} {px py pz p p2 : Pos} (h1 : isLcl Γ.sc x = true) (h2 : isLcl Γ.sc y = true) (h3 : isLcl Γ.sc z = true) (hl : (px.line == py.line) = true) (hl3 : (px.line == pz.line) = true) (hd : decide (x = y) = false) (hd2 : decide (x = z) = false) (hd3 : decide (y = z) = false)
    (ha : noStar a = true) (hb : noStar b = true) (hdd : noStar d = true)
    (hf : ¬ [a, b, d].all (foldedForSure 8) = true) (hc : ¬ [a, b, d].all (constantsAlone 8) = true) : swappedStores [.Tuple [.Name x px, .Name y py, .Name z pz] k p] (.Tuple [a, b, d] k2 p2) X.env = pure (some [x, y, z]) := by
  have kx : X.env.kindOf x = some .local := lcl_ok C h1
  have ky : X.env.kindOf y = some .local := lcl_ok C h2
  have kz : X.env.kindOf z = some .local := lcl_ok C h3
  have hk : X.env.blockKind = .function := by
    unfold Env.blockKind; rw [show X.env.scope.kind = .function by rw [C.sc]; exact C.kind]; rfl
  have hxy : x ≠ y := of_decide_eq_false hd
  have hxz : x ≠ z := of_decide_eq_false hd2
  have hyz : y ≠ z := of_decide_eq_false hd3
  have hl2 : (py.line == px.line) = true := by rw [beq_iff_eq] at hl ⊢; exact hl.symm
  have hl4 : (pz.line == px.line) = true := by rw [beq_iff_eq] at hl3 ⊢; exact hl3.symm
  have sa := star1 ha
  have sb := star1 hb
  have sd := star1 hdd
  unfold swappedStores
  simp only [List.any_cons, List.any_nil, hk, List.filterMap_cons, List.filterMap_nil, kx, ky, kz, List.head?_cons, Option.map_some, Option.getD_some, Expr.pos, hl2, hl4, beq_self_eq_true, Bool.and_self, if_true, List.length_cons, List.length_nil, hf, hc, Bool.or_self, Bool.or_false]
  have h5 : ([x, y, z].eraseDups.length != 0 + 1 + 1 + 1) = false := by
    simp [List.eraseDups_cons, hxy, Ne.symm hxy, hxz, hyz, Ne.symm hxz, Ne.symm hyz]
  refine (if_neg (by decide)).trans ((if_neg (show ¬ (isStar a || (isStar b || isStar d)) = true by rw [sa, sb, sd]; decide)).trans ((if_neg (by rw [h5]; decide)).trans ?_))
  rfl
omit S C in
theorem asg_one {e : Expr} {env : Env} (h : noStar e = true) : (assignEach [e] env).map (·.2) = [assign e env] := by
  rw [asg_of h]; rfl
omit S C in
theorem sub_asg {oe ie : Expr} {tpos : Pos} {env : Env} (h : plainIx ie = true) (v : Value) : assign (.Subscript oe ie tpos) env v = (do
      let ov ← holding [v] (eval oe env)
      let iv ← holding [v, ov] (eval ie env)
      standAt tpos
      holding [v, ov, iv] (setItem ov iv v)
      release [v, ov, iv] []) := by
  cases ie <;> first | rfl | cases h
omit S in
theorem cSet_ok {x : Str} {i : Nat} {p pos : Pos} {e : Expr} {f : EvD} (hl : isLoc Γ x = true) (hn : notComp e = true) (hi : idx x Γ.N = some i) (he : PEv X e f) : PSv X (.Assign [.Name x p] e pos) (cSet Γ x i f) := by
  obtain ⟨h1, h2⟩ := loc_ok C hl
  have hN : X.N.Nodup := by rw [C.N]; exact C.nd
  have hi' : X.N[i]? = some x := by rw [C.N]; exact idx_ok hi
  unfold cSet
  split
  · exact psv_setM hN hi' h1 he (sw_no hn) h2
  · exact psv_set hN hi' h1 he (sw_no hn) h2
theorem cSetLc_ok {x : Str} {i : Nat} {p pos lp : Pos} {elt : Expr} {gs : List Comprehension} {scope : Scope} {f : EvD} (hl : isLcl Γ.sc x = true) (hline : (p.line == lp.line) = true) (hsc : (scope.names.any fun (n, k) => n == x && (k == .local || k == .cell)) = false)
    (hi : idx x Γ.N = some i) (h : cLc c Γ elt scope gs = some f) : PSv X (.Assign [.Name x p] (.ListComp elt gs scope lp) pos) (cSet Γ x i f) := by
  have hlx := lcl_ok C hl
  have hN : X.N.Nodup := by rw [C.N]; exact C.nd
  have hi' : X.N[i]? = some x := by rw [C.N]; exact idx_ok hi
  have hk : X.env.scope.kind = .function := by rw [C.sc]; exact C.kind
  unfold cLc at h
  split at h
  · split at h
    · rename_i hh
      obtain ⟨h1, h2⟩ := hh
      split at h
      · rename_i k1 k2 k3 k4
        cases h
        have kd := blkC_kind h1
        unfold cSet
        split
        · exact psv_setLcM C.calm hN hi' hlx (sw_true hk hlx hline hsc) (S.i C k1) (by rw [C.N, C.sc]; exact blkOk_by h1) (fun s H Ca cl fp => S.g (rel_ok C kd s H Ca cl fp) k2) (fun s H Ca cl fp => cIfs_ok S (rel_ok C kd s H Ca cl fp) k3)
            (fun s H Ca cl fp => S.e (rel_ok C kd s H Ca cl fp) k4) (isSet_ok C h2)
        · exact psv_setLc C.calm hN hi' hlx (sw_true hk hlx hline hsc) (S.i C k1) (by rw [C.N, C.sc]; exact blkOk_by h1) (fun s H Ca cl fp => S.g (rel_ok C kd s H Ca cl fp) k2) (fun s H Ca cl fp => cIfs_ok S (rel_ok C kd s H Ca cl fp) k3)
            (fun s H Ca cl fp => S.e (rel_ok C kd s H Ca cl fp) k4) (isSet_ok C h2)
      · cases h
    · cases h
  · cases h
theorem cAsg_ok {t e : Expr} {pos : Pos} {f : EvS} (h : cAsg c Γ t e pos.line = some f) : PSv X (.Assign [t] e pos) f := by
  unfold cAsg at h
  split at h
  · split at h
    · rename_i hh
      split at h
      · rename_i k1 k2; cases h
        exact cSetLc_ok S C hh.1 hh.2.1 hh.2.2 k1 k2
      · cases h
    · cases h
  · split at h
    · rename_i hh
      split at h
      · rename_i k1 k2; cases h
        exact cSet_ok C hh.1 hh.2 k1 (S.e C k2)
      · cases h
    · cases h
  · split at h
    · split at h
      · rename_i hf
        split at h
        · rename_i k1 k2; cases h
          exact psv_unp (S.e C k2) (S.g C k1) sw_tup (st_fold hf) (asg_one rfl)
        · cases h
      · rename_i hf
        split at h
        · rename_i hcell
          split at h
          · rename_i k1 k2; cases h
            exact psv_unp (S.e C k2) (S.g C k1) sw_tup (st_cell C hcell) (asg_one rfl)
          · cases h
        split at h
        · cases h
        · rename_i hc
          split at h
          · split at h
            · rename_i hh
              obtain ⟨q1, q2, q3, q4, q5, q6⟩ := hh
              split at h
              · rename_i k1 k2 k3; cases h
                refine psv_par C.calm (by rw [C.N]; exact C.nd) (by rw [C.N]; exact idx_ok k1) (by rw [C.N]; exact idx_ok k2) (fun z => ?_) (lcl_ok C q1) (lcl_ok C q2) (S.a C k3) (st_par2 C q1 q2 q3 q4 q5 q6 hf hc) sw_tup
                have e1 := idx_ok k1
                have e2 := idx_ok k2
                rw [z, e2] at e1
                cases e1
                simp at q4
              · cases h
            · cases h
          · split at h
            · rename_i hh
              obtain ⟨q1, q2, q3, q4, q5, q6, q7, q8, q9, q10, q11⟩ := hh
              split at h
              · rename_i k1 k2 k3 k4; cases h
                have e1 := idx_ok k1
                have e2 := idx_ok k2
                have e3 := idx_ok k3
                refine psv_par3 C.calm (by rw [C.N]; exact C.nd) (by rw [C.N]; exact e1) (by rw [C.N]; exact e2) (by rw [C.N]; exact e3) (fun z => ?_) (fun z => ?_) (fun z => ?_) (lcl_ok C q1) (lcl_ok C q2) (lcl_ok C q3) (S.a C k4) (st_par3 C q1 q2 q3 q4 q5 q6 q7 q8 q9 q10 q11 hf hc) sw_tup
                · rw [z, e2] at e1; cases e1; simp at q6
                · rw [z, e3] at e1; cases e1; simp at q7
                · rw [z, e3] at e2; cases e2; simp at q8
              · cases h
            · cases h
          · cases h
    · rename_i hl
      split at h
      · rename_i k1 k2; cases h
        exact psv_unp (S.e C k2) (S.g C k1) sw_tup (st_len hl) (asg_one rfl)
      · cases h
  · split at h
    · rename_i hh
      split at h
      · rename_i k1 k2; cases h
        exact psv_unp (S.e C k2) (S.g C k1) sw_tup (st_other hh) (asg_one rfl)
      · cases h
    · cases h
  · split at h
    · rename_i hh
      split at h
      · rename_i k1 k2 k3; cases h
        refine psv_sub (S.e C k1) (S.e C k2) (S.e C k3) (sub_asg hh.1) (sw_sub hh.2) ?_ (asg_one rfl)
        rfl
      · cases h
    · cases h
  · cases h
theorem stS_ok (CS : CtxS X) {s : Stmt} {f : EvS} (h : stS c Γ s = some f) : PSv X s f := by
  unfold stS at h
  split at h
  · split at h
    · rename_i hn
      split at h
      · rename_i k1; cases h; exact psv_expr (S.e C k1) (sw_no hn)
      · cases h
    · cases h
  · split at h
    · rename_i k1; cases h; exact psv_ret (S.e C k1)
    · cases h
  · cases h; exact psv_retN
  · cases h; exact psv_pass
  · cases h; exact psv_bk
  · cases h; exact psv_ct
  · split at h
    · rename_i k1 k2 k3; cases h; exact psv_if (S.t C k1) (S.ss C CS k2) (S.ss C CS k3)
    · cases h
  · split at h
    · rename_i k1 k2; cases h; exact psv_while CS.own (S.t C k1) (S.ss C CS k2)
    · cases h
  · split at h
    · rename_i k1 k2 k3 k4; cases h; exact psv_for CS.own C.calm (S.i C k2) (S.g C k1) (S.ss C CS k3) (isSet_ok C k4)
    · cases h
  · exact cAsg_ok S C h
  · split at h
    · rename_i k1 k2 k3 k4; cases h
      obtain ⟨h1, h2⟩ := loc_ok C k4
      exact psv_aug (by rw [C.N]; exact C.nd) (by rw [C.N]; exact idx_ok k3) h1 (S.e C k2) (opI_ok k1) h2
    · cases h
  · split at h
    · rename_i hh; cases h
      exact psv_raise C.calm (C.exc _ (by simpa using hh.1)) (gl_ok C hh.2.1) (okName_1 hh.2.2)
    · cases h; exact psv_no
  · cases h
theorem stSs_ok (CS : CtxS X) {s : List Stmt} {f : EvS} (h : stSs c Γ s = some f) : PSsv X s f := by
  unfold stSs at h
  split at h
  · cases h; exact pssv_nil
  · split at h
    · rename_i k1 k2; cases h; exact pssv_cons (S.s C CS k1) (S.ss C CS k2)
    · cases h
end
theorem snd0 : Snd cmp0 := ⟨fun _ => fun h => (nomatch h), fun _ => fun h => (nomatch h), fun _ => fun h => (nomatch h), fun _ => fun h => (nomatch h), fun _ => fun h => (nomatch h), fun _ => fun h => (nomatch h), fun h => (nomatch h), fun _ _ => fun h => (nomatch h), fun _ _ => fun h => (nomatch h)⟩
theorem snd : ∀ n, Snd (cmp n)
  | 0 => snd0
  | n + 1 => ⟨fun C => fun h => stE_ok (snd n) C h, fun C => fun h => cA_ok (snd n) C h, fun C => fun h => stT_ok (snd n) C h, fun C => fun h => stI_ok (snd n) C h, fun C => fun h => stG_ok (snd n) C h, fun C => fun h => stGs_ok (snd n) C h, fun h => stGs_len (snd n) h, fun C CS => fun h => stS_ok (snd n) C CS h, fun C CS => fun h => stSs_ok (snd n) C CS h⟩
end Ev

set_option Elab.async false
set_option linter.all false
set_option maxRecDepth 100000
set_option maxHeartbeats 4000000
/-! Core14: a def of the text, by its compiled body. -/
namespace Ev
open PySem PySem.Spec PyProof.Rows L2

/-- the great number -/
def GRT : Int := 10 ^ 30
structure GlOk (K : PySem.W.Frag) (mg : Str → Option Value) (cst : List (Str × P)) (exc : List Str) : Prop where
  cst : ∀ x p, (x, p) ∈ cst → ∃ u v, mg x = some u ∧ RelV v u ∧ ∀ H mu, Rep ⟨mg, K⟩ H mu p v
  blt : ∀ x ∈ bltN, mg x = none
  exc : ∀ x ∈ exc, ExcG K mg x
def Fns (P : Program) (w : World) (K : PySem.W.Frag) (mg : Str → Option Value) (base : Heap) (k : Nat) (l : List (Str × Nat × Fn)) : Prop := ∀ x n F, (x, n, F) ∈ l → FnG P w K mg base k x n F
section
variable {P : Program} {w : World} {K : PySem.W.Frag} {mg : Str → Option Value} {base : Heap} {k : Nat} {cst : List (Str × Ev.P)} {exc : List Str}
theorem fns_nil : Fns P w K mg base k [] := fun _ _ _ h => (nomatch h)
theorem fns_cons {j : Nat} {x : Str} {n : Nat} {F : Fn} {l : List (Str × Nat × Fn)} (h : FnG P w K mg base j x n F) (r : Fns P w K mg base k l) (hj : j ≤ k) : Fns P w K mg base k ((x, n, F) :: l) := fun y m G hm => by
  rcases List.mem_cons.mp hm with e | hm
  · cases e; exact h.mono hj
  · exact r y m G hm
theorem fn_ok {x : Str} {params : Arguments} {body : List Stmt} {scope : Scope} {f : Addr} {fd : FuncData} {N ps : List Str} {fns : List (Str × Nat × Fn)} {mu : List Str} {m : Nat} {b : EvS} (G : GlOk K mg cst exc)
    (F : FunD K x x params body scope [] [] f fd) (S : C8.scC N ps scope = true)
    (hf : Fns P w K mg base k fns) (hc : (cmp m).ss ⟨N, scope, fns, cst, mu, exc, fun _ => true⟩ body = some b) : FnOk P w K mg base (L2N.CX P w) (k + 1) f fd ps (spOf ⟨mg, K⟩ ps.length (fnB N.length b)) := by
  have Sc := C8.fnScope_by S
  obtain ⟨oc, od, dV, kV, doc, pm, an, cdv, ct, osl, rfl, lk, hcd, _, _⟩ := F.ex
  refine fn_body lk hcd Sc fun A outer s H E hr => ?_
  have C : CtxOk (cxOf (L2N.CX P w) P w K mg base N x scope f cdv A outer s H E) k ⟨N, scope, fns, cst, mu, exc, fun _ => true⟩ :=
    { N := rfl, nd := Sc.nd, sc := rfl, kind := Sc.kind, calm := rfl, room := hr, fns := hf, cst := G.cst, fn := fun x hx => rfl, blt := G.blt, exc := G.exc }
  exact (snd m).ss C ⟨L2.passes_of rfl⟩ hc
theorem fn_mk {x : Str} {params : Arguments} {body : List Stmt} {scope : Scope} {f : Addr} {fd : FuncData} {N ps : List Str} {fns : List (Str × Nat × Fn)} {mu : List Str} {m : Nat} {b : EvS} (G : GlOk K mg cst exc)
    (F : FunD K x x params body scope [] [] f fd) (gx : mg x = some (.ref f)) (S : C8.scC N ps scope = true)
    (hb : ∀ (kV doc pm : Value) (an : Option Addr) (cdv ct : Value) (us : List Value), us.length = ps.length → bindArgs (PySem.W.fnOf x x params body scope .none kV doc pm an cdv ct) ⟨us, []⟩ = pure (ps.zip us))
    (hf : Fns P w K mg base k fns) (hc : (cmp m).ss ⟨N, scope, fns, cst, mu, exc, fun _ => true⟩ body = some b) : FnG P w K mg base (k + 1) x ps.length (fnB N.length b) :=
  ⟨f, fd, ps, fn_ok G F S hf hc, gx, F.kp, F.bindsN hb⟩
theorem fn_no {x : Str} {params : Arguments} {body : List Stmt} {scope : Scope} {f : Addr} {fd : FuncData} {ps : List Str}
    (F : FunD K x x params body scope [] [] f fd) (gx : mg x = some (.ref f))
    (hb : ∀ (kV doc pm : Value) (an : Option Addr) (cdv ct : Value) (us : List Value), us.length = ps.length → bindArgs (PySem.W.fnOf x x params body scope .none kV doc pm an cdv ct) ⟨us, []⟩ = pure (ps.zip us)) : FnG P w K mg base k x ps.length (fun _ _ => .no) :=
  ⟨f, fd, ps, ⟨fun vs H Q E ⟨ds, M, mu, hl, r, _⟩ => by rw [r.length, hl], fun A outer s H args us vs Q E hr e0 hb' hv ⟨ds, M, mu, hl, r, st, z⟩ => z.elim⟩, gx, F.kp, F.bindsN hb⟩
/-- a call's errors, whatever the world -/
def CXA : CXT := fun outer H s E e s' => ∃ P w, L2N.CX P w outer H s E e s'
theorem fn_cxa {f : Addr} {fd : FuncData} {ps : List Str} {sp : Sp} (F : FnOk P w K mg base (L2N.CX P w) k f fd ps sp) : FnOk P w K mg base CXA k f fd ps sp :=
  ⟨F.len, fun A outer s H args us vs Q E hr e0 hb hv hs => codeAny_mono (F.run A outer s H args us vs Q E hr e0 hb hv hs) fun r s' h => by
    cases r with
    | error e => exact ⟨P, w, h⟩
    | ok fl => cases fl <;> exact h⟩
theorem cxa_false {H : Hp} {s : Shared} {e : Value} {s' : Shared} (h : CXA [] H s (fun _ _ _ => False) e s') : False := by
  obtain ⟨_, _, _, _, _, _, _, _, _, _, _, _, _, _, z⟩ := h
  exact z
theorem exc_g {x : Str} (g : mg x = some (.ref (He.ga K x))) (c : (He.Fa.exc x).ok K = true) : ExcG K mg x := by
  obtain ⟨h1, h2, h3, h4⟩ := He.exc_ok c
  exact ⟨_, _, _, _, _, PySem.F.excBase_ValueError, h1, g, h2, h3, h4⟩
theorem cst_int {x : Str} {i : Int} {t : Tok} (h : mg x = some (.int i t)) : ∃ u v, mg x = some u ∧ RelV v u ∧ ∀ H mu, Rep ⟨mg, K⟩ H mu (.int i) v :=
  ⟨_, .int i, h, ⟨t, rfl⟩, fun H mu => by unfold Rep; rfl⟩
theorem cst_str {x z : Str} {t : Tok} (h : mg x = some (.str z t)) : ∃ u v, mg x = some u ∧ RelV v u ∧ ∀ H mu, Rep ⟨mg, K⟩ H mu (.str z) v :=
  ⟨_, .str z, h, ⟨t, rfl⟩, fun H mu => by unfold Rep; rfl⟩
/-- the law's def: its promise at the script -/
def lawSp (K : PySem.W.Frag) (mg : Str → Option Value) (F : Fn) : Prop := ∀ ns : List Int, ns.length ≤ 63 → ∃ M, F [.p (.scr ns)] [] = .ok (.p (.bl true)) M
theorem law_sp {F : Fn} (h : lawSp K mg F) {H : Hp} {a : Addr} {ns : List Int} (hl : ns.length ≤ 63) (hO : Only H) (hS : SqL K H a (ns.map V.int)) : spOf ⟨mg, K⟩ 1 F [.ref a] H (fun v _ => v = .bl true) fun _ _ _ => False := by
  obtain ⟨M, e⟩ := h ns hl
  refine ⟨[.p (.scr ns)], [], [], rfl, ⟨.ref a, [], rfl, ?_, rfl⟩, ⟨rfl, List.nodup_nil, fun _ q => (nomatch q), fun n mo q => (by simp at q)⟩, ?_⟩
  · show Rep _ _ _ _ _
    unfold Rep
    refine ⟨a, rfl, ?_⟩
    rcases hS with (h | ⟨o, h⟩) | h
    · rcases hO a with z | ⟨o, xs, z⟩
      · rw [h] at z; cases z
      · rw [h] at z; cases z
    · exact .inl ⟨fun z => (nomatch z), o, h⟩
    · exact .inr h
  · rw [e]
    intro v H' mu' l p
    have z : Rep _ _ _ _ _ := p.2
    unfold Rep at z
    exact z
end
end Ev

set_option Elab.async false
set_option linter.all false
set_option maxRecDepth 100000
set_option maxHeartbeats 4000000
/-! Core15: reckoning with the combinators. -/
namespace Ev
open PySem


section
variable {σ : Fr} {M : Sto} {fa fb fc f : EvD} {fs r : EvA} {c k : EvB} {s1 s2 : EvS} {o o' : P → P → Option D} {i : Nat} {ids : List Nat}
@[simp] theorem x_eC {p : P} : eC p σ M = .ok (.p p) M := rfl
@[simp] theorem x_eVar : eVar i σ M = (match σ[i]? with
  | some (some d) => .ok d M
  | _ => .no) := rfl
@[simp] theorem x_eBin : eBin o fa fb σ M = (fa σ M).bind fun d1 M1 => (fb σ M1).bind fun d2 M2 => op2 o d1 d2 M2 := rfl
@[simp] theorem x_op2 {d1 d2 : D} : op2 o d1 d2 M = (match d1.get M, d2.get M with
  | some p, some q => (match o p q with
    | some d => .ok d M
    | none => .no)
  | _, _ => .no) := rfl
@[simp] theorem x_get {p : P} : D.get M (.p p) = some p := rfl
@[simp] theorem x_getn {p : List P} : D.get M (.nw p) = some (.lst p) := rfl
@[simp] theorem x_getl {n : Nat} : D.get M (.loc n) = (match M[n]? with
  | some (.lst ps) => some (.lst ps)
  | _ => none) := rfl
@[simp] theorem x_val {p : P} : D.val (.p p) = .p p := rfl
@[simp] theorem x_valn {p : List P} : D.val (.nw p) = .p (.lst p) := rfl
@[simp] theorem x_vall {n : Nat} : D.val (.loc n) = .loc n := rfl
@[simp] theorem x_aNil : aNil σ M = .ok [] M := rfl
@[simp] theorem x_aCons : aCons f r σ M = (f σ M).bind fun d M1 => (r σ M1).bind fun ds M2 => .ok (d.val :: ds) M2 := rfl
@[simp] theorem x_eCall {n : Nat} {F : Fn} : eCall n F fs σ M = (fs σ M).bind fun ds M1 => if ds.length = n then F ds M1 else .no := rfl
@[simp] theorem x_eCB {o : List P → Option D} : eCB o fs σ M = (fs σ M).bind fun ds M1 => match getL M1 ds with
  | some ps => (match o ps with
    | some d => .ok d M1
    | none => .no)
  | none => .no := rfl
@[simp] theorem x_getL0 : getL M [] = some [] := rfl
@[simp] theorem x_getL {d : D} {ds : List D} : getL M (d :: ds) = (match d.get M, getL M ds with
    | some p, some ps => some (p :: ps)
    | _, _ => none) := rfl
@[simp] theorem x_bOf : bOf f σ M = (f σ M).bind fun d M1 => match d with
  | .p (.bl b) => .ok b M1
  | _ => .no := rfl
@[simp] theorem x_bTru : bTru f σ M = (f σ M).bind fun d M1 => match d.get M1 with
  | some p => (match p.tru with
    | some b => .ok b M1
    | none => .no)
  | none => .no := rfl
@[simp] theorem x_bNot : bNot c σ M = (c σ M).bind fun b M1 => .ok (!b) M1 := rfl
@[simp] theorem x_bAnd : bAnd c k σ M = (c σ M).bind fun b M1 => if b = true then k σ M1 else .ok false M1 := rfl
@[simp] theorem x_bOr : bOr c k σ M = (c σ M).bind fun b M1 => if b = true then .ok true M1 else k σ M1 := rfl
@[simp] theorem x_bYes : bYes σ M = .ok true M := rfl
@[simp] theorem x_eAnd : eAnd fa fb σ M = (fa σ M).bind fun d M1 => match d.get M1 with
  | some p => (match p.tru with
    | some true => fb σ M1
    | some false => .ok d.val M1
    | none => .no)
  | none => .no := rfl
@[simp] theorem x_eOr : eOr fa fb σ M = (fa σ M).bind fun d M1 => match d.get M1 with
  | some p => (match p.tru with
    | some true => .ok d.val M1
    | some false => fb σ M1
    | none => .no)
  | none => .no := rfl
@[simp] theorem x_eNot : eNot fa σ M = (bTru fa σ M).bind fun b M1 => .ok (.p (.bl (!b))) M1 := rfl
@[simp] theorem x_eIf : eIf c fa fb σ M = (c σ M).bind fun b M1 => if b = true then fa σ M1 else fb σ M1 := rfl
@[simp] theorem x_eChain : eChain o o' fa fb fc σ M = (fa σ M).bind fun d1 M1 => (fb σ M1).bind fun d2 M2 => (op2 o d1 d2 M2).bind fun d M3 => match d with
  | .p (.bl true) => (fc σ M3).bind fun d3 M4 => op2 o' d2.val d3 M4
  | .p (.bl false) => .ok (.p (.bl false)) M3
  | _ => .no := rfl
@[simp] theorem x_eNeg : eNeg fa σ M = (fa σ M).bind fun d M1 => match d with
  | .p (.int i) => .ok (.p (.int (-i))) M1
  | _ => .no := rfl
@[simp] theorem x_eTup : eTup fs σ M = (fs σ M).bind fun ds M1 => match allP ds with
  | some ps => if ps.length ≤ lim then .ok (.p (.tup ps)) M1 else .no
  | none => .no := rfl
@[simp] theorem x_eLst : eLst fs σ M = (fs σ M).bind fun ds M1 => match allP ds with
  | some ps => if ps.length ≤ lim then .ok (.nw ps) M1 else .no
  | none => .no := rfl
@[simp] theorem x_allP0 : allP [] = some [] := rfl
@[simp] theorem x_allP {p : P} {ds : List D} : allP (.p p :: ds) = (allP ds).map fun ps => p :: ps := rfl
@[simp] theorem x_eIsi {T : String} : eIsi T f σ M = (f σ M).bind fun d M1 => match d.get M1 with
  | some p => (match p.ty with
    | some a => .ok (.p (.bl (isiB a T))) M1
    | none => .no)
  | none => .no := rfl
@[simp] theorem x_sNil : sNil σ M = .ok (.nx σ) M := rfl
@[simp] theorem x_sSeq : sSeq s1 s2 σ M = (match s1 σ M with
  | .ok (.nx σ1) M1 => s2 σ1 M1
  | o => o) := rfl
@[simp] theorem x_sExpr : sExpr f σ M = (f σ M).toS σ fun _ M1 => .ok (.nx σ) M1 := rfl
@[simp] theorem x_sRet : sRet f σ M = (f σ M).toS σ fun d M1 => .ok (.rt d) M1 := rfl
@[simp] theorem x_sRetN : sRetN σ M = .ok (.rt (.p .non)) M := rfl
@[simp] theorem x_sIf : sIf c s1 s2 σ M = (c σ M).toS σ fun b M1 => if b = true then s1 σ M1 else s2 σ M1 := rfl
@[simp] theorem x_sSet : sSet i f σ M = (f σ M).toS σ fun d M1 => .ok (.nx (σ.set i (some d.val))) M1 := rfl
@[simp] theorem x_sNo : sNo σ M = .no := rfl
@[simp] theorem x_sUnp {t : Tg} : sUnp t f σ M = (f σ M).toS σ fun d M1 => match d with
  | .p p => (match tgA t p σ with
    | some σ1 => .ok (.nx σ1) M1
    | none => .no)
  | _ => .no := rfl
@[simp] theorem x_sPar : sPar ids fs σ M = (fs σ M).toS σ fun ds M1 => if ds.length = ids.length then .ok (.nx ((ids.zip ds).foldl (fun σ x => σ.set x.1 (some x.2)) σ)) M1 else .no := rfl
@[simp] theorem x_sAug : sAug i o f σ M = (match σ[i]? with
  | some (some dx) => (f σ M).toS σ fun d M1 => (op2 o dx d M1).toS σ fun r M2 => .ok (.nx (σ.set i (some r.val))) M2
  | _ => .no) := rfl
@[simp] theorem x_iOf : iOf f σ M = (f σ M).bind fun d M1 => match d with
  | .p (.lst ps) => .ok ps M1
  | .p (.tup ps) => .ok ps M1
  | .p (.str s) => .ok (chars s) M1
  | .nw ps => .ok ps M1
  | _ => .no := rfl
@[simp] theorem x_nm {p : P} : tgA (.nm i) p σ = some (σ.set i (some (.p p))) := by unfold tgA; rfl
@[simp] theorem x_tu {ts : List Tg} {ps : List P} : tgA (.tu ts) (.tup ps) σ = if ps.length = ts.length then tgL ts ps σ else none := by
  rw [tgA]
@[simp] theorem x_tgL0 : tgL [] [] σ = some σ := by rw [tgL]
@[simp] theorem x_tgL {t : Tg} {ts : List Tg} {p : P} {ps : List P} : tgL (t :: ts) (p :: ps) σ = (match tgA t p σ with
    | some σ1 => tgL ts ps σ1
    | none => none) := by
  rw [tgL]
  all_goals (cases tgA t p σ <;> rfl)
@[simp] theorem x_lv_nx {n : Nat} : leave n (.ok (.nx σ) M) = .ok (.p .non) (M.take n) := rfl
@[simp] theorem x_lv_p {n : Nat} {p : P} : leave n (.ok (.rt (.p p)) M) = .ok (.p p) (M.take n) := rfl
@[simp] theorem x_lv_n {n : Nat} {p : List P} : leave n (.ok (.rt (.nw p)) M) = .ok (.nw p) (M.take n) := rfl
@[simp] theorem x_lv_er {n : Nat} {x : Str} {y : Option Int} : leave n (.er x y σ M) = .er x y (M.take n) := rfl
@[simp] theorem x_tru_bl {b : Bool} : P.tru (.bl b) = some b := rfl
@[simp] theorem x_tru_int {b : Int} : P.tru (.int b) = some (decide (b ≠ 0)) := rfl
@[simp] theorem x_tru_non : P.tru .non = some false := rfl
@[simp] theorem x_ty_int {b : Int} : P.ty (.int b) = some "int" := rfl
@[simp] theorem x_ty_bl {b : Bool} : P.ty (.bl b) = some "bool" := rfl
@[simp] theorem x_ty_str {b : Str} : P.ty (.str b) = some "str" := rfl
@[simp] theorem x_ty_tup {b : List P} : P.ty (.tup b) = some "tuple" := rfl
@[simp] theorem x_ty_lst {b : List P} : P.ty (.lst b) = some "list" := rfl
@[simp] theorem x_ty_non : P.ty .non = some "NoneType" := rfl
@[simp] theorem isi1 : isiB "int" "int" = true := by decide
@[simp] theorem isi2 : isiB "int" "bool" = false := by decide
@[simp] theorem isi3 : isiB "str" "str" = true := by decide
@[simp] theorem isi4 : isiB "tuple" "tuple" = true := by decide
@[simp] theorem isi5 : isiB "bool" "int" = true := by decide
@[simp] theorem isi6 : isiB "bool" "bool" = true := by decide
@[simp] theorem o_add_i {a b : Int} : oAdd (.int a) (.int b) = some (.p (.int (a + b))) := rfl
@[simp] theorem o_sub_i {a b : Int} : oSub (.int a) (.int b) = some (.p (.int (a - b))) := rfl
@[simp] theorem o_lt_i {a b : Int} : oLt (.int a) (.int b) = some (.p (.bl (decide (a < b)))) := rfl
@[simp] theorem o_le_i {a b : Int} : oLe (.int a) (.int b) = some (.p (.bl (decide (a ≤ b)))) := rfl
@[simp] theorem o_gt_i {a b : Int} : oGt (.int a) (.int b) = some (.p (.bl (decide (b < a)))) := rfl
@[simp] theorem o_ge_i {a b : Int} : oGe (.int a) (.int b) = some (.p (.bl (decide (b ≤ a)))) := rfl
@[simp] theorem o_iadd_i {a b : Int} : oIadd (.int a) (.int b) = some (.p (.int (a + b))) := rfl
@[simp] theorem o_eq_i {a b : Int} : oEq (.int a) (.int b) = some (.p (.bl (decide (a = b)))) := rfl
@[simp] theorem o_ne_i {a b : Int} : oNe (.int a) (.int b) = some (.p (.bl (!decide (a = b)))) := rfl
@[simp] theorem o_eq_s {a b : Str} : oEq (.str a) (.str b) = some (.p (.bl (decide (a = b)))) := rfl
@[simp] theorem o_ne_s {a b : Str} : oNe (.str a) (.str b) = some (.p (.bl (!decide (a = b)))) := rfl
@[simp] theorem o_mod_i {a b : Int} (h : 0 < b) : oMod (.int a) (.int b) = some (.p (.int (a % b))) := by simp [oMod, h]
@[simp] theorem c_abs_i {a : Int} : cAbs [.int a] = some (.p (.int (if a < 0 then -a else a))) := rfl
@[simp] theorem c_int_i {a : Int} : cInt [.int a] = some (.p (.int a)) := rfl
@[simp] theorem c_len_t {a : List P} : cLen [.tup a] = some (.p (.int a.length)) := rfl
@[simp] theorem c_len_l {a : List P} : cLen [.lst a] = some (.p (.int a.length)) := rfl
@[simp] theorem c_len_c {a : List Int} : cLen [.scr a] = some (.p (.int a.length)) := rfl
theorem c_len_s {a : Str} (h : a.length ≤ lim) : cLen [.str a] = some (.p (.int a.length)) := by simp [cLen, h]
end
theorem fnB1 {N : Nat} {f : EvS} {a : D} {M : Sto} : fnB N f [a] M = leave M.length (f (some a :: List.replicate (N - 1) none) M) := rfl
theorem fnB2 {N : Nat} {f : EvS} {a b : D} {M : Sto} : fnB N f [a, b] M = leave M.length (f (some a :: some b :: List.replicate (N - 2) none) M) := rfl
theorem fnB3 {N : Nat} {f : EvS} {a b c : D} {M : Sto} : fnB N f [a, b, c] M = leave M.length (f (some a :: some b :: some c :: List.replicate (N - 3) none) M) := rfl
theorem fnB4 {N : Nat} {f : EvS} {a b c d : D} {M : Sto} : fnB N f [a, b, c, d] M = leave M.length (f (some a :: some b :: some c :: some d :: List.replicate (N - 4) none) M) := rfl
theorem fnB5 {N : Nat} {f : EvS} {a b c d e : D} {M : Sto} : fnB N f [a, b, c, d, e] M = leave M.length (f (some a :: some b :: some c :: some d :: some e :: List.replicate (N - 5) none) M) := rfl
theorem fnB0 {N : Nat} {f : EvS} {M : Sto} : fnB N f [] M = leave M.length (f (List.replicate N none) M) := rfl

/-! the chain, step by step (the kernel never opens a step) -/
theorem seq_ok {s1 s2 : EvS} {σ σ1 : Fr} {M M1 : Sto} (h : s1 σ M = .ok (.nx σ1) M1) : sSeq s1 s2 σ M = s2 σ1 M1 := by rw [x_sSeq, h]
theorem seq_rt {s1 s2 : EvS} {σ : Fr} {M M1 : Sto} {d : D} (h : s1 σ M = .ok (.rt d) M1) : sSeq s1 s2 σ M = .ok (.rt d) M1 := by rw [x_sSeq, h]
theorem set_ok {i : Nat} {f : EvD} {σ : Fr} {M M1 : Sto} {d : D} (h : f σ M = .ok d M1) : sSet i f σ M = .ok (.nx (σ.set i (some d.val))) M1 := by rw [x_sSet, h]; rfl
theorem ret_ok {f : EvD} {σ : Fr} {M M1 : Sto} {d : D} (h : f σ M = .ok d M1) : sRet f σ M = .ok (.rt d) M1 := by rw [x_sRet, h]; rfl
theorem exp_ok {f : EvD} {σ : Fr} {M M1 : Sto} {d : D} (h : f σ M = .ok d M1) : sExpr f σ M = .ok (.nx σ) M1 := by rw [x_sExpr, h]; rfl
theorem unp_ok {t : Tg} {f : EvD} {σ σ1 : Fr} {M M1 : Sto} {p : P} (h : f σ M = .ok (.p p) M1) (h2 : tgA t p σ = some σ1) : sUnp t f σ M = .ok (.nx σ1) M1 := by
  rw [x_sUnp, h]
  show (match tgA t p σ with
    | some σ1 => OutS.ok (.nx σ1) M1
    | none => .no) = _
  rw [h2]
theorem if_t {c : EvB} {a b : EvS} {σ : Fr} {M M1 : Sto} (h : c σ M = .ok true M1) : sIf c a b σ M = a σ M1 := by rw [x_sIf, h]; rfl
theorem if_f {c : EvB} {a b : EvS} {σ : Fr} {M M1 : Sto} (h : c σ M = .ok false M1) : sIf c a b σ M = b σ M1 := by rw [x_sIf, h]; rfl
theorem bin_ok {o : P → P → Option D} {fa fb : EvD} {σ : Fr} {M M1 M2 : Sto} {d1 d2 d : D} {p q : P} (h1 : fa σ M = .ok d1 M1) (h2 : fb σ M1 = .ok d2 M2) (e1 : d1.get M2 = some p) (e2 : d2.get M2 = some q) (e3 : o p q = some d) : eBin o fa fb σ M = .ok d M2 := by
  rw [x_eBin, h1]
  show (fb σ M1).bind _ = _
  rw [h2]
  show op2 o d1 d2 M2 = _
  rw [x_op2, e1, e2]
  show (match o p q with
    | some d => Out.ok d M2
    | none => .no) = _
  rw [e3]
theorem for_ok {t : Tg} {fi : EvI} {b : EvS} {σ : Fr} {M M1 : Sto} {ps : List P} (h : fi σ M = .ok ps M1) : sFor t fi b σ M = forL t b ps σ M1 := by
  unfold sFor
  rw [h]; rfl
theorem callB_ok {o : List P → Option D} {fs : EvA} {σ : Fr} {M M1 : Sto} {ds : List D} {ps : List P} {d : D} (h : fs σ M = .ok ds M1) (h2 : getL M1 ds = some ps) (h3 : o ps = some d) : eCB o fs σ M = .ok d M1 := by
  rw [x_eCB, h]
  show (match getL M1 ds with
    | some ps => (match o ps with
      | some d => Out.ok d M1
      | none => .no)
    | none => .no) = _
  rw [h2]
  show (match o ps with
      | some d => Out.ok d M1
      | none => .no) = _
  rw [h3]
theorem call_ok {n : Nat} {F : Fn} {fs : EvA} {σ : Fr} {M M1 M2 : Sto} {ds : List D} {d : D} (h : fs σ M = .ok ds M1) (hn : ds.length = n) (h2 : F ds M1 = .ok d M2) : eCall n F fs σ M = .ok d M2 := by
  rw [x_eCall, h]
  show (if ds.length = n then F ds M1 else .no) = _
  rw [if_pos hn, h2]
theorem cons_ok {f : EvD} {r : EvA} {σ : Fr} {M M1 M2 : Sto} {d : D} {ds : List D} (h : f σ M = .ok d M1) (h2 : r σ M1 = .ok ds M2) : aCons f r σ M = .ok (d.val :: ds) M2 := by
  rw [x_aCons, h]
  show (r σ M1).bind _ = _
  rw [h2]; rfl
theorem nil_ok {σ : Fr} {M : Sto} : aNil σ M = .ok [] M := rfl
theorem lv_p {b : EvS} {σ : Fr} {M : Sto} {p : P} (h : b σ M = .ok (.rt (.p p)) M) : leave M.length (b σ M) = .ok (.p p) M := by rw [h, x_lv_p, List.take_length]
theorem lv_n {b : EvS} {σ : Fr} {M : Sto} {p : List P} (h : b σ M = .ok (.rt (.nw p)) M) : leave M.length (b σ M) = .ok (.nw p) M := by rw [h, x_lv_n, List.take_length]
theorem lv_x {b : EvS} {σ σ1 : Fr} {M : Sto} (h : b σ M = .ok (.nx σ1) M) : leave M.length (b σ M) = .ok (.p .non) M := by rw [h, x_lv_nx, List.take_length]
/-- a comprehension whose block changes nothing -/
theorem lcL_pure {t : Tg} {ifs : EvB} {el : EvD} {σ : Fr} {M : Sto} {f : P → Option P} : ∀ {ps acc : List P}, (∀ p ∈ ps, ∃ σ1, tgA t p σ = some σ1 ∧ ∀ M', ifs σ1 M' = .ok (f p).isSome M' ∧ ∀ q, f p = some q → ∃ d, el σ1 M' = .ok d M' ∧ d.val = .p q) →
    acc.length + ps.length ≤ lim → lcL t true ifs el M.length σ ps (M ++ [.lst acc]) = .ok (.nw (acc ++ ps.filterMap f)) M
  | [], acc, _, _ => by
    unfold lcL
    rw [List.getElem?_append_right (Nat.le_refl _), Nat.sub_self]
    simp
  | p :: ps, acc, h, hl => by
    obtain ⟨σ1, e1, e2⟩ := h p List.mem_cons_self
    obtain ⟨e3, e4⟩ := e2 (M ++ [.lst acc])
    unfold lcL
    rw [e1]
    dsimp only
    rw [e3]
    have hl' : acc.length + (ps.length + 1) ≤ lim := hl
    cases hf : f p with
    | none =>
      dsimp only [Option.isSome]
      rw [lcL_pure (fun q hq => h q (List.mem_cons_of_mem _ hq)) (by omega), List.filterMap_cons, hf]
    | some q =>
      obtain ⟨d, e5, e6⟩ := e4 q hf
      dsimp only [Option.isSome]
      rw [e5]
      dsimp only
      rw [e6]
      dsimp only
      have ea : addL M.length q (M ++ [.lst acc]) = .ok () (M ++ [.lst (acc ++ [q])]) := by
        unfold addL
        rw [List.getElem?_append_right (Nat.le_refl _), Nat.sub_self]
        have : acc.length < lim := by omega
        simp [this]
      rw [ea]
      dsimp only
      rw [lcL_pure (acc := acc ++ [q]) (fun q hq => h q (List.mem_cons_of_mem _ hq)) (by simp; omega), List.filterMap_cons, hf]
      simp
theorem eLc_pure {t : Tg} {vs : List Nat} {fi : EvI} {ifs : EvB} {el : EvD} {σ : Fr} {M : Sto} {ps : List P} (f : P → Option P) (hi : fi σ M = .ok ps M) (hv : ((tgS t).all fun i => vs.contains i) = true)
    (h : ∀ p ∈ ps, ∃ σ1, tgA t p (wipeF σ vs) = some σ1 ∧ ∀ M', ifs σ1 M' = .ok (f p).isSome M' ∧ ∀ q, f p = some q → ∃ d, el σ1 M' = .ok d M' ∧ d.val = .p q) (hl : ps.length ≤ lim) :
    eLc t vs fi ifs el σ M = .ok (.nw (ps.filterMap f)) M := by
  unfold eLc
  rw [hi]
  dsimp only [Out.bind]
  rw [hv]
  have := lcL_pure (M := M) (acc := []) h (by simpa using hl)
  simpa using this
/-- without a test -/
theorem eLc_map {t : Tg} {vs : List Nat} {fi : EvI} {el : EvD} {σ : Fr} {M : Sto} {ps : List P} (f : P → P) (hi : fi σ M = .ok ps M) (hv : ((tgS t).all fun i => vs.contains i) = true)
    (h : ∀ p ∈ ps, ∃ σ1, tgA t p (wipeF σ vs) = some σ1 ∧ ∀ M', ∃ d, el σ1 M' = .ok d M' ∧ d.val = .p (f p)) (hl : ps.length ≤ lim) :
    eLc t vs fi bYes el σ M = .ok (.nw (ps.map f)) M := by
  rw [eLc_pure (fun p => some (f p)) hi hv (fun p hp => ?_) hl]
  · simp
  · obtain ⟨σ1, e1, e2⟩ := h p hp
    refine ⟨σ1, e1, fun M' => ⟨rfl, fun q hq => ?_⟩⟩
    cases hq
    exact e2 M'
theorem intsOf_map (ns : List Int) : intsOf (ns.map P.int) = some ns := by
  induction ns with
  | nil => rfl
  | cons n r ih => simp [intsOf, ih]
theorem blsOf_map (ns : List Bool) : blsOf (ns.map P.bl) = some ns := by
  induction ns with
  | nil => rfl
  | cons n r ih => simp [blsOf, ih]
theorem strsOf_map (ns : List Str) : strsOf (ns.map P.str) = some ns := by
  induction ns with
  | nil => rfl
  | cons n r ih => simp [strsOf, ih]
@[simp] theorem cSum_map (ns : List Int) : cSum [.lst (ns.map P.int)] = some (.p (.int ns.sum)) := by
  simp [cSum, intsOf_map]
@[simp] theorem cAll_map (ns : List Bool) : cAll [.lst (ns.map P.bl)] = some (.p (.bl (ns.all id))) := by
  simp [cAll, blsOf_map]
end Ev

set_option Elab.async false
set_option linter.all false
set_option maxRecDepth 100000
set_option maxHeartbeats 4000000
/-! Core16: equality of plain data; further chain lemmas. -/
namespace Ev
open PySem PySem.Spec PyProof.Rows L2
mutual
def pd : P → PyData
  | .non => .none
  | .bl b => .bool b
  | .int i => .int i
  | .str s => .str s
  | .tup ps => .tuple (pdL ps)
  | .lst ps => .list (pdL ps)
  | .fn _ => .none
  | .scr _ => .none
def pdL : List P → List PyData
  | [] => []
  | p :: ps => pd p :: pdL ps
end
def sOk (s : Str) : Bool := s.cps.toList.all fun c => decide (c < 0x110000)
mutual
/-- data of depth at most n -/
def datB : P → Nat → Bool
  | .non, _ => true
  | .bl _, _ => true
  | .int _, _ => true
  | .str s, _ => sOk s
  | .tup ps, n => decide (0 < n) && datLB ps (n - 1)
  | .lst ps, n => decide (0 < n) && datLB ps (n - 1)
  | .fn _, _ => false
  | .scr _, _ => false
def datLB : List P → Nat → Bool
  | [], _ => true
  | p :: ps, n => datB p n && datLB ps n
end
theorem sOk_str {s : Str} (h : sOk s = true) : PySem.PyData.strOk s = true := by
  unfold sOk at h
  unfold PySem.PyData.strOk
  rw [← Array.all_toList]
  exact h
mutual
theorem dat_to : ∀ {p : P} {n : Nat}, datB p n = true → toPy p = some (pd p) ∧ PyData.canLay0 (pd p) = true ∧ PyData.depth (pd p) ≤ n + 1
  | .non, n, _ => ⟨by rw [toPy, pd], by rw [pd, PyData.canLay0], by rw [pd, PyData.depth] <;> first | omega | simp⟩
  | .bl _, n, _ => ⟨by rw [toPy, pd], by rw [pd, PyData.canLay0], by rw [pd, PyData.depth] <;> first | omega | simp⟩
  | .int _, n, _ => ⟨by rw [toPy, pd], by rw [pd, PyData.canLay0], by rw [pd, PyData.depth] <;> first | omega | simp⟩
  | .str _, n, h => ⟨by rw [toPy, pd], by rw [pd, PyData.canLay0]; rw [datB] at h; exact sOk_str h, by rw [pd, PyData.depth] <;> first | omega | simp⟩
  | .tup ps, n, h => by
    rw [datB, Bool.and_eq_true, decide_eq_true_eq] at h
    obtain ⟨a, b, c⟩ := datL_to h.2
    refine ⟨by rw [toPy, a, pd]; rfl, by rw [pd, PyData.canLay0]; exact b, ?_⟩
    rw [pd, PyData.depth]
    omega
  | .lst ps, n, h => by
    rw [datB, Bool.and_eq_true, decide_eq_true_eq] at h
    obtain ⟨a, b, c⟩ := datL_to h.2
    refine ⟨by rw [toPy, a, pd]; rfl, by rw [pd, PyData.canLay0]; exact b, ?_⟩
    rw [pd, PyData.depth]
    omega
  | .fn _, n, h => by rw [datB] at h; cases h
  | .scr _, n, h => by rw [datB] at h; cases h
theorem datL_to : ∀ {ps : List P} {n : Nat}, datLB ps n = true → toPyL ps = some (pdL ps) ∧ PyData.canLayAll0 (pdL ps) = true ∧ PyData.depthAll (pdL ps) ≤ n + 1
  | [], n, _ => ⟨by rw [toPyL, pdL], by rw [pdL, PyData.canLayAll0], by rw [pdL, PyData.depthAll]; omega⟩
  | p :: ps, n, h => by
    rw [datLB, Bool.and_eq_true] at h
    obtain ⟨a, b, c⟩ := dat_to h.1
    obtain ⟨a', b', c'⟩ := datL_to h.2
    refine ⟨by rw [toPyL, a, a', pdL], by rw [pdL, PyData.canLayAll0, b, b']; rfl, ?_⟩
    rw [pdL, PyData.depthAll]
    omega
end
/-- equality as Python has it -/
def peq (p q : P) : Bool := PyData.eqv (pd p) (pd q)
def peqL (p q : List P) : Bool := PyData.eqvAll (pdL p) (pdL q)
theorem eqB_dat {p q : P} (hp : datB p 60 = true) (hq : datB q 60 = true) : eqB p q = some (peq p q) := by
  obtain ⟨a1, a2, a3⟩ := dat_to hp
  obtain ⟨b1, b2, b3⟩ := dat_to hq
  have s1 : SeqAt.shaped (pd p) = true := by
    unfold SeqAt.shaped
    rw [a2, Bool.true_and, decide_eq_true_eq]
    omega
  have s2 : SeqAt.shaped (pd q) = true := by
    unfold SeqAt.shaped
    rw [b2, Bool.true_and, decide_eq_true_eq]
    omega
  unfold eqB
  split
  · simp only [peq, pd, PyData.eqv]
    rename_i i j
    by_cases z : i = j <;> simp [z]
  · simp only [peq, pd, PyData.eqv]
    rename_i i j
    by_cases z : i = j <;> simp [z]
  · rw [a1, b1]
    dsimp only
    rw [s1, s2]
    rfl
theorem oEq_dat {p q : P} (hp : datB p 60 = true) (hq : datB q 60 = true) : oEq p q = some (.p (.bl (peq p q))) := by
  unfold oEq
  rw [eqB_dat hp hq]; rfl
theorem oNe_dat {p q : P} (hp : datB p 60 = true) (hq : datB q 60 = true) : oNe p q = some (.p (.bl (!peq p q))) := by
  unfold oNe
  rw [eqB_dat hp hq]; rfl
mutual
theorem peq_refl_ : ∀ {p : P} {n : Nat}, datB p n = true → peq p p = true
  | .non, n, _ => by simp only [peq, pd, PyData.eqv]
  | .bl _, n, _ => by simp only [peq, pd, PyData.eqv, beq_self_eq_true]
  | .int _, n, _ => by simp only [peq, pd, PyData.eqv, beq_self_eq_true]
  | .str _, n, h => by simp only [peq, pd, PyData.eqv, beq_self_eq_true]
  | .tup ps, n, h => by
    rw [datB, Bool.and_eq_true] at h
    have := peqL_refl_ h.2
    simpa only [peq, peqL, pd, PyData.eqv] using this
  | .lst ps, n, h => by
    rw [datB, Bool.and_eq_true] at h
    have := peqL_refl_ h.2
    simpa only [peq, peqL, pd, PyData.eqv] using this
  | .fn _, n, h => by rw [datB] at h; cases h
  | .scr _, n, h => by rw [datB] at h; cases h
theorem peqL_refl_ : ∀ {ps : List P} {n : Nat}, datLB ps n = true → peqL ps ps = true
  | [], n, _ => by simp only [peqL, pdL, PyData.eqvAll]
  | p :: ps, n, h => by
    rw [datLB, Bool.and_eq_true] at h
    have a := peq_refl_ h.1
    have b := peqL_refl_ h.2
    unfold peqL at b ⊢
    unfold peq at a
    rw [pdL, PyData.eqvAll, a, b]; rfl
end
theorem oEq_refl {p : P} (hp : datB p 60 = true) : oEq p p = some (.p (.bl true)) := by rw [oEq_dat hp hp, peq_refl_ hp]
theorem oNe_refl {p : P} (hp : datB p 60 = true) : oNe p p = some (.p (.bl false)) := by rw [oNe_dat hp hp, peq_refl_ hp]; rfl
/-! further chain lemmas -/
theorem tup_ok {fs : EvA} {σ : Fr} {M M1 : Sto} {ds : List D} {ps : List P} (h : fs σ M = .ok ds M1) (h2 : allP ds = some ps) (h3 : ps.length ≤ lim) : eTup fs σ M = .ok (.p (.tup ps)) M1 := by
  rw [x_eTup, h]
  show (match allP ds with
    | some ps => if ps.length ≤ lim then Out.ok (D.p (.tup ps)) M1 else .no
    | none => .no) = _
  rw [h2]
  show (if ps.length ≤ lim then Out.ok (D.p (.tup ps)) M1 else .no) = _
  rw [if_pos h3]
theorem lst_ok {fs : EvA} {σ : Fr} {M M1 : Sto} {ds : List D} {ps : List P} (h : fs σ M = .ok ds M1) (h2 : allP ds = some ps) (h3 : ps.length ≤ lim) : eLst fs σ M = .ok (.nw ps) M1 := by
  rw [x_eLst, h]
  show (match allP ds with
    | some ps => if ps.length ≤ lim then Out.ok (D.nw ps) M1 else .no
    | none => .no) = _
  rw [h2]
  show (if ps.length ≤ lim then Out.ok (D.nw ps) M1 else .no) = _
  rw [if_pos h3]
theorem and_t {fa fb : EvD} {σ : Fr} {M M1 M2 : Sto} {d : D} (h : fa σ M = .ok (.p (.bl true)) M1) (h2 : fb σ M1 = .ok d M2) : eAnd fa fb σ M = .ok d M2 := by
  rw [x_eAnd, h]
  show fb σ M1 = _
  rw [h2]
theorem and_f {fa fb : EvD} {σ : Fr} {M M1 : Sto} (h : fa σ M = .ok (.p (.bl false)) M1) : eAnd fa fb σ M = .ok (.p (.bl false)) M1 := by
  rw [x_eAnd, h]; rfl
theorem or_t {fa fb : EvD} {σ : Fr} {M M1 : Sto} (h : fa σ M = .ok (.p (.bl true)) M1) : eOr fa fb σ M = .ok (.p (.bl true)) M1 := by
  rw [x_eOr, h]; rfl
theorem or_f {fa fb : EvD} {σ : Fr} {M M1 M2 : Sto} {d : D} (h : fa σ M = .ok (.p (.bl false)) M1) (h2 : fb σ M1 = .ok d M2) : eOr fa fb σ M = .ok d M2 := by
  rw [x_eOr, h]
  show fb σ M1 = _
  rw [h2]
theorem ife_t {c : EvB} {fa fb : EvD} {σ : Fr} {M M1 : Sto} (h : c σ M = .ok true M1) : eIf c fa fb σ M = fa σ M1 := by rw [x_eIf, h]; rfl
theorem ife_f {c : EvB} {fa fb : EvD} {σ : Fr} {M M1 : Sto} (h : c σ M = .ok false M1) : eIf c fa fb σ M = fb σ M1 := by rw [x_eIf, h]; rfl
theorem bof_ok {f : EvD} {σ : Fr} {M M1 : Sto} {b : Bool} (h : f σ M = .ok (.p (.bl b)) M1) : bOf f σ M = .ok b M1 := by rw [x_bOf, h]; rfl
theorem btru_ok {f : EvD} {σ : Fr} {M M1 : Sto} {d : D} {p : P} {b : Bool} (h : f σ M = .ok d M1) (h2 : d.get M1 = some p) (h3 : p.tru = some b) : bTru f σ M = .ok b M1 := by
  rw [x_bTru, h]
  show (match d.get M1 with
    | some p => (match p.tru with
      | some b => Out.ok b M1
      | none => .no)
    | none => .no) = _
  rw [h2]
  show (match p.tru with
      | some b => Out.ok b M1
      | none => .no) = _
  rw [h3]
theorem bnot_ok {c : EvB} {σ : Fr} {M M1 : Sto} {b : Bool} (h : c σ M = .ok b M1) : bNot c σ M = .ok (!b) M1 := by rw [x_bNot, h]; rfl
theorem band_t {c k : EvB} {σ : Fr} {M M1 : Sto} (h : c σ M = .ok true M1) : bAnd c k σ M = k σ M1 := by rw [x_bAnd, h]; rfl
theorem band_f {c k : EvB} {σ : Fr} {M M1 : Sto} (h : c σ M = .ok false M1) : bAnd c k σ M = .ok false M1 := by rw [x_bAnd, h]; rfl
theorem bor_t {c k : EvB} {σ : Fr} {M M1 : Sto} (h : c σ M = .ok true M1) : bOr c k σ M = .ok true M1 := by rw [x_bOr, h]; rfl
theorem bor_f {c k : EvB} {σ : Fr} {M M1 : Sto} (h : c σ M = .ok false M1) : bOr c k σ M = k σ M1 := by rw [x_bOr, h]; rfl
theorem not_ok {f : EvD} {σ : Fr} {M M1 : Sto} {d : D} {p : P} {b : Bool} (h : f σ M = .ok d M1) (h2 : d.get M1 = some p) (h3 : p.tru = some b) : eNot f σ M = .ok (.p (.bl (!b))) M1 := by
  rw [x_eNot, btru_ok h h2 h3]; rfl
theorem par_ok {ids : List Nat} {fs : EvA} {σ : Fr} {M M1 : Sto} {ds : List D} (h : fs σ M = .ok ds M1) (hn : ds.length = ids.length) : sPar ids fs σ M = .ok (.nx ((ids.zip ds).foldl (fun σ x => σ.set x.1 (some x.2)) σ)) M1 := by
  rw [x_sPar, h]
  show (if ds.length = ids.length then _ else OutS.no) = _
  rw [if_pos hn]
end Ev

set_option Elab.async false
set_option linter.all false
set_option maxRecDepth 100000
set_option maxHeartbeats 0
/-! printed by gen.py: the combinators of the defs, the head, the rows. -/
namespace Ev
open PySem PySem.Spec PyProof.Rows L2
/-! ### the defs as combinators -/
def b_is_integer : EvS := (sSeq (sRet (eAnd (eIsi "int" (eVar 0)) (eAnd (eNot (eIsi "bool" (eVar 0))) (eChain oLe oLe (eVar 1) (eVar 0) (eVar 2)))))
    sNil)
def F_is_integer : Fn := fnB 3 b_is_integer
def b_is_letter : EvS := (sSeq (sRet (eAnd (eIsi "str" (eVar 0)) (eAnd (eBin oEq (eCB cLen (aCons (eVar 0) aNil)) (eC (.int 1))) (eBin oIn (eVar 0) (eVar 1)))))
    sNil)
def F_is_letter : Fn := fnB 2 b_is_letter
def b_is_stretch : EvS := (sSeq (sIf (bOr (bNot (bTru (eIsi "tuple" (eVar 0)))) (bOf (eBin oNe (eCB cLen (aCons (eVar 0) aNil)) (eC (.int 2))))) (sSeq (sRet (eC (.bl false)))
    sNil) sNil)
    (sSeq (sRet (eAnd (eCall 2 F_is_letter (aCons (eBin oIx (eVar 0) (eC (.int 0))) (aCons (eC (.str "bgr")) aNil))) (eCall 3 F_is_integer (aCons (eBin oIx (eVar 0) (eC (.int 1))) (aCons (eC (.int 1)) (aCons (eC (.int GRT)) aNil))))))
    sNil))
def F_is_stretch : Fn := fnB 1 b_is_stretch
def b_is_machine : EvS := (sSeq (sIf (bOr (bNot (bTru (eIsi "tuple" (eVar 0)))) (bOf (eBin oNe (eCB cLen (aCons (eVar 0) aNil)) (eC (.int 2))))) (sSeq (sRet (eC (.bl false)))
    sNil) sNil)
    (sSeq (sUnp (.tu [(.nm 1), (.nm 2)]) (eVar 0))
    (sSeq (sIf (bOr (bNot (bTru (eIsi "tuple" (eVar 1)))) (bNot (bOf (eChain oLe oLe (eC (.int 1)) (eCB cLen (aCons (eVar 1) aNil)) (eC (.int 6)))))) (sSeq (sRet (eC (.bl false)))
    sNil) sNil)
    (sSeq (sIf (bNot (bTru (eCB cAll (aCons (eLc (.nm 4) [4] (iOf (eVar 1)) bYes (eCall 1 F_is_stretch (aCons (eVar 4) aNil))) aNil)))) (sSeq (sRet (eC (.bl false)))
    sNil) sNil)
    (sSeq (sIf (bOr (bNot (bTru (eIsi "tuple" (eVar 2)))) (bOf (eBin oNotIn (eCB cLen (aCons (eVar 2) aNil)) (eTup (aCons (eC (.int 2)) (aCons (eC (.int 3)) aNil)))))) (sSeq (sRet (eC (.bl false)))
    sNil) sNil)
    (sSeq (sRet (eCB cAll (aCons (eLc (.nm 3) [3] (iOf (eVar 2)) bYes (eCall 3 F_is_integer (aCons (eVar 3) (aCons (eC (.int 0)) (aCons (eC (.int 9)) aNil))))) aNil)))
    sNil))))))
def F_is_machine : Fn := fnB 5 b_is_machine
def b_signs_of : EvS := (sSeq (sRet (eSl (eC (.str "xyz")) sNone (sSome (eCB cLen (aCons (eBin oIx (eVar 0) (eC (.int 1))) aNil)))))
    sNil)
def F_signs_of : Fn := fnB 1 b_signs_of
def b_are_signs : EvS := (sSeq (sIf (bOr (bNot (bTru (eIsi "str" (eVar 1)))) (bOf (eBin oGt (eCB cLen (aCons (eVar 1) aNil)) (eVar 2)))) (sSeq (sRet (eC (.bl false)))
    sNil) sNil)
    (sSeq (sRet (eCB cAll (aCons (eLc (.nm 3) [3] (iOf (eVar 1)) bYes (eBin oIn (eVar 3) (eCall 1 F_signs_of (aCons (eVar 0) aNil)))) aNil)))
    sNil))
def F_are_signs : Fn := fnB 4 b_are_signs
def b_length_by : EvS := (sSeq (sRet (eCB cSum (aCons (eLc (.tu [(.nm 1), (.nm 2)]) [1, 2] (iOf (eBin oIx (eVar 0) (eC (.int 0)))) bYes (eVar 2)) aNil)))
    sNil)
def F_length_by : Fn := fnB 3 b_length_by
def b_step_of : EvS := (sSeq (sRet (eCB cSum (aCons (eLc (.tu [(.nm 2), (.nm 3)]) [2, 3] (iZip (aCons (eC (.str "xyz")) (aCons (eBin oIx (eVar 0) (eC (.int 1))) aNil))) (bOf (eBin oEq (eVar 2) (eVar 1))) (eVar 3)) aNil)))
    sNil)
def F_step_of : Fn := fnB 4 b_step_of
def b_steps_by : EvS := (sSeq (sRet (eCB cSum (aCons (eLc (.nm 2) [2] (iOf (eVar 1)) bYes (eCall 2 F_step_of (aCons (eVar 0) (aCons (eVar 2) aNil)))) aNil)))
    sNil)
def F_steps_by : Fn := fnB 3 b_steps_by
def b_place_by : EvS := (sSeq (sSet 2 (eCall 1 F_length_by (aCons (eVar 0) aNil)))
    (sSeq (sRet (eIf (bOf (eBin oLt (eVar 1) (eVar 2))) (eVar 1) (eBin oSub (eBin oSub (eBin oMul (eC (.int 2)) (eVar 2)) (eC (.int 1))) (eVar 1))))
    sNil))
def F_place_by : Fn := fnB 3 b_place_by
def b_colour_by : EvS := (sSeq (sSet 2 (eCall 2 F_place_by (aCons (eVar 0) (aCons (eVar 1) aNil))))
    (sSeq (sSet 3 (eC (.str "")))
    (sSeq (sFor (.tu [(.nm 4), (.nm 5)]) (iOf (eBin oIx (eVar 0) (eC (.int 0)))) (sSeq (sIf (bAnd (bOf (eBin oEq (eVar 3) (eC (.str "")))) (bOf (eBin oLt (eVar 2) (eVar 5)))) (sSeq (sSet 3 (eVar 4))
    sNil) sNil)
    (sSeq (sAug 2 oSub (eVar 5))
    sNil)))
    (sSeq (sRet (eVar 3))
    sNil))))
def F_colour_by : Fn := fnB 6 b_colour_by
def b_arcs_of : EvS := (sSeq (sUnp (.tu [(.nm 5), (.nm 6)]) (eTup (aCons (eBin oIx (eVar 0) (eC (.int 0))) (aCons (eBin oMul (eC (.int 2)) (eCall 1 F_length_by (aCons (eVar 0) aNil))) aNil))))
    (sSeq (sSet 2 (eLc (.nm 7) [7] (iRange1 (aCons (eCB cLen (aCons (eVar 5) aNil)) aNil)) bYes (eCB cSum (aCons (eLc (.tu [(.nm 10), (.nm 9)]) [10, 9] (iOf (eSl (eVar 5) sNone (sSome (eVar 7)))) bYes (eVar 9)) aNil))))
    (sSeq (sSet 3 (eLc (.tu [(.nm 8), (.tu [(.nm 10), (.nm 9)])]) [8, 10, 9] (iZip (aCons (eVar 2) (aCons (eVar 5) aNil))) (bOf (eBin oEq (eVar 10) (eVar 1))) (eTup (aCons (eVar 8) (aCons (eVar 9) aNil)))))
    (sSeq (sSet 4 (eLc (.tu [(.nm 8), (.nm 9)]) [8, 9] (iOf (eVar 3)) bYes (eTup (aCons (eVar 8) (aCons (eBin oSub (eBin oAdd (eVar 8) (eVar 9)) (eC (.int 1))) aNil)))))
    (sSeq (sRet (eBin oAdd (eVar 4) (eLc (.tu [(.nm 8), (.nm 9)]) [8, 9] (iOf (eVar 3)) bYes (eTup (aCons (eBin oSub (eBin oSub (eVar 6) (eVar 8)) (eVar 9)) (aCons (eBin oSub (eBin oSub (eVar 6) (eC (.int 1))) (eVar 8)) aNil))))))
    sNil)))))
def F_arcs_of : Fn := fnB 11 b_arcs_of
def b_need_machine : EvS := (sSeq (sIf (bNot (bTru (eCall 1 F_is_machine (aCons (eVar 0) aNil)))) (sSeq sNo
    sNil) sNil)
    sNil)
def F_need_machine : Fn := fnB 1 b_need_machine
def b_need_standing : EvS := (sSeq (sIf (bNot (bTru (eCall 3 F_is_integer (aCons (eVar 1) (aCons (eC (.int 0)) (aCons (eBin oSub (eBin oMul (eC (.int 2)) (eCall 1 F_length_by (aCons (eVar 0) aNil))) (eC (.int 1))) aNil)))))) (sSeq sNo
    sNil) sNil)
    sNil)
def F_need_standing : Fn := fnB 2 b_need_standing
def b_need_line : EvS := (sSeq (sIf (bOr (bOf (eBin oEq (eVar 1) (eC (.str "")))) (bNot (bTru (eCall 3 F_are_signs (aCons (eVar 0) (aCons (eVar 1) (aCons (eC (.int 40)) aNil))))))) (sSeq sNo
    sNil) sNil)
    sNil)
def F_need_line : Fn := fnB 2 b_need_line
def b_need_number : EvS := (sSeq (sIf (bNot (bTru (eCall 3 F_is_integer (aCons (eVar 0) (aCons (eC (.int 0)) (aCons (eC (.int GRT)) aNil)))))) (sSeq sNo
    sNil) sNil)
    sNil)
def F_need_number : Fn := fnB 1 b_need_number
def b_need_index : EvS := (sSeq (sIf (bNot (bTru (eCall 3 F_is_integer (aCons (eVar 1) (aCons (eC (.int 0)) (aCons (eBin oSub (eCB cLen (aCons (eVar 0) aNil)) (eC (.int 1))) aNil)))))) (sSeq sNo
    sNil) sNil)
    sNil)
def F_need_index : Fn := fnB 2 b_need_index
def b_need_place : EvS := (sSeq (sIf (bNot (bTru (eCall 3 F_is_integer (aCons (eVar 1) (aCons (eC (.int 0)) (aCons (eBin oSub (eCall 1 F_length_by (aCons (eVar 0) aNil)) (eC (.int 1))) aNil)))))) (sSeq sNo
    sNil) sNil)
    sNil)
def F_need_place : Fn := fnB 2 b_need_place
def b_need_colour : EvS := (sSeq (sIf (bNot (bTru (eCall 2 F_is_letter (aCons (eVar 0) (aCons (eC (.str "bgr")) aNil))))) (sSeq sNo
    sNil) sNil)
    sNil)
def F_need_colour : Fn := fnB 1 b_need_colour
def b_need_all : EvS := (sSeq (sExpr (eCall 1 F_need_machine (aCons (eVar 0) aNil)))
    (sSeq (sExpr (eCall 2 F_need_standing (aCons (eVar 0) (aCons (eVar 1) aNil))))
    (sSeq (sExpr (eCall 2 F_need_line (aCons (eVar 0) (aCons (eVar 2) aNil))))
    sNil)))
def F_need_all : Fn := fnB 3 b_need_all
def b_place_of : EvS := (sSeq (sExpr (eCall 1 F_need_machine (aCons (eVar 0) aNil)))
    (sSeq (sExpr (eCall 2 F_need_standing (aCons (eVar 0) (aCons (eVar 1) aNil))))
    (sSeq (sRet (eCall 2 F_place_by (aCons (eVar 0) (aCons (eVar 1) aNil))))
    sNil)))
def F_place_of : Fn := fnB 2 b_place_of
def b_colour_of : EvS := (sSeq (sExpr (eCall 1 F_need_machine (aCons (eVar 0) aNil)))
    (sSeq (sExpr (eCall 2 F_need_standing (aCons (eVar 0) (aCons (eVar 1) aNil))))
    (sSeq (sRet (eCall 2 F_colour_by (aCons (eVar 0) (aCons (eVar 1) aNil))))
    sNil)))
def F_colour_of : Fn := fnB 2 b_colour_of
def b_divisor : EvS := (sSeq (sWhile (bOf (eBin oGt (eVar 1) (eC (.int 0)))) (sSeq (sPar [0, 1] (aCons (eVar 1) (aCons (eBin oMod (eVar 0) (eVar 1)) aNil)))
    sNil))
    (sSeq (sRet (eVar 0))
    sNil))
def F_divisor : Fn := fnB 2 b_divisor
def b_standing_by : EvS := (sSeq (sSet 5 (eBin oAdd (eBin oMul (eVar 3) (eCall 2 F_steps_by (aCons (eVar 0) (aCons (eVar 2) aNil)))) (eCall 2 F_steps_by (aCons (eVar 0) (aCons (eSl (eVar 2) sNone (sSome (eVar 4))) aNil)))))
    (sSeq (sRet (eBin oMod (eBin oAdd (eVar 1) (eVar 5)) (eBin oMul (eC (.int 2)) (eCall 1 F_length_by (aCons (eVar 0) aNil)))))
    sNil))
def F_standing_by : Fn := fnB 6 b_standing_by
def b_colours_by : EvS := (sSeq (sSet 4 (eLc (.nm 5) [5] (iRange1 (aCons (eCB cLen (aCons (eVar 2) aNil)) aNil)) bYes (eCall 2 F_colour_by (aCons (eVar 0) (aCons (eCall 5 F_standing_by (aCons (eVar 0) (aCons (eVar 1) (aCons (eVar 2) (aCons (eVar 3) (aCons (eVar 5) aNil)))))) aNil)))))
    (sSeq (sRet (eMt "str" mJoin (eC (.str "")) (aCons (eVar 4) aNil)))
    sNil))
def F_colours_by : Fn := fnB 6 b_colours_by
def b_standing : EvS := (sSeq (sExpr (eCall 3 F_need_all (aCons (eVar 0) (aCons (eVar 1) (aCons (eVar 2) aNil)))))
    (sSeq (sExpr (eCall 1 F_need_number (aCons (eVar 3) aNil)))
    (sSeq (sExpr (eCall 2 F_need_index (aCons (eVar 2) (aCons (eVar 4) aNil))))
    (sSeq (sRet (eCall 5 F_standing_by (aCons (eVar 0) (aCons (eVar 1) (aCons (eVar 2) (aCons (eVar 3) (aCons (eVar 4) aNil)))))))
    sNil))))
def F_standing : Fn := fnB 5 b_standing
def b_colours : EvS := (sSeq (sExpr (eCall 3 F_need_all (aCons (eVar 0) (aCons (eVar 1) (aCons (eVar 2) aNil)))))
    (sSeq (sExpr (eCall 1 F_need_number (aCons (eVar 3) aNil)))
    (sSeq (sRet (eCall 4 F_colours_by (aCons (eVar 0) (aCons (eVar 1) (aCons (eVar 2) (aCons (eVar 3) aNil))))))
    sNil)))
def F_colours : Fn := fnB 4 b_colours
def b_period : EvS := (sSeq (sExpr (eCall 1 F_need_machine (aCons (eVar 0) aNil)))
    (sSeq (sExpr (eCall 2 F_need_line (aCons (eVar 0) (aCons (eVar 1) aNil))))
    (sSeq (sSet 2 (eBin oMul (eC (.int 2)) (eCall 1 F_length_by (aCons (eVar 0) aNil))))
    (sSeq (sRet (eBin oFdiv (eVar 2) (eCall 2 F_divisor (aCons (eVar 2) (aCons (eBin oMod (eCall 2 F_steps_by (aCons (eVar 0) (aCons (eVar 1) aNil))) (eVar 2)) aNil)))))
    sNil))))
def F_period : Fn := fnB 3 b_period
def b_first_rest (F : Fn) : EvS := (sSeq (sIf (bOf (eBin oEq (eVar 2) (eC (.int 0)))) (sSeq (sRet (eC (.int 0)))
    sNil) sNil)
    (sSeq (sAug 0 oMod (eVar 1))
    (sSeq (sIf (bOf (eBin oEq (eVar 0) (eC (.int 0)))) (sSeq (sRet (eC (.non)))
    sNil) sNil)
    (sSeq (sSet 4 (eBin oFdiv (eBin oSub (eBin oAdd (eVar 2) (eVar 0)) (eC (.int 1))) (eVar 0)))
    (sSeq (sIf (bOf (eBin oLe (eBin oMul (eVar 4) (eVar 0)) (eVar 3))) (sSeq (sRet (eVar 4))
    sNil) sNil)
    (sSeq (sSet 4 (eCall 4 F (aCons (eVar 1) (aCons (eVar 0) (aCons (eBin oMod (eNeg (eVar 3)) (eVar 0)) (aCons (eBin oMod (eNeg (eVar 2)) (eVar 0)) aNil))))))
    (sSeq (sRet (eIf (bOf (eBin oIsN (eVar 4) (eC (.non)))) (eC (.non)) (eBin oFdiv (eBin oSub (eBin oAdd (eBin oAdd (eVar 2) (eBin oMul (eVar 1) (eVar 4))) (eVar 0)) (eC (.int 1))) (eVar 0))))
    sNil)))))))
def F_first_rest_ : Nat → Fn
  | 0 => fun _ _ => .no
  | n + 1 => fnB 5 (b_first_rest (F_first_rest_ n))
def F_first_rest : Fn := F_first_rest_ 219
def b_first_hit : EvS := (sSeq (sIf (bOf (eChain oLe oLe (eBin oIx (eVar 3) (eC (.int 0))) (eVar 0) (eBin oIx (eVar 3) (eC (.int 1))))) (sSeq (sRet (eC (.int 0)))
    sNil) sNil)
    (sSeq (sSet 4 (eBin oMod (eBin oSub (eBin oIx (eVar 3) (eC (.int 0))) (eVar 0)) (eVar 2)))
    (sSeq (sRet (eCall 4 F_first_rest (aCons (eVar 1) (aCons (eVar 2) (aCons (eVar 4) (aCons (eBin oSub (eBin oAdd (eVar 4) (eBin oIx (eVar 3) (eC (.int 1)))) (eBin oIx (eVar 3) (eC (.int 0)))) aNil))))))
    sNil)))
def F_first_hit : Fn := fnB 5 b_first_hit
def b_first_by : EvS := (sSeq (sUnp (.tu [(.nm 7), (.nm 8)]) (eTup (aCons (eBin oMul (eC (.int 2)) (eCall 1 F_length_by (aCons (eVar 0) aNil))) (aCons (eCall 2 F_steps_by (aCons (eVar 0) (aCons (eVar 2) aNil))) aNil))))
    (sSeq (sSet 5 (eCall 5 F_standing_by (aCons (eVar 0) (aCons (eVar 1) (aCons (eVar 2) (aCons (eC (.int 0)) (aCons (eVar 3) aNil)))))))
    (sSeq (sSet 6 (eLc (.nm 9) [9] (iOf (eCall 2 F_arcs_of (aCons (eVar 0) (aCons (eVar 4) aNil)))) bYes (eCall 4 F_first_hit (aCons (eVar 5) (aCons (eVar 8) (aCons (eVar 7) (aCons (eVar 9) aNil)))))))
    (sSeq (sSet 6 (eLc (.nm 10) [10] (iOf (eVar 6)) (bOf (eBin oNotN (eVar 10) (eC (.non)))) (eVar 10)))
    (sSeq (sRet (eIf (bOf (eBin oNe (eVar 6) (eLst aNil))) (eCB cMin (aCons (eVar 6) aNil)) (eC (.non))))
    sNil)))))
def F_first_by : Fn := fnB 11 b_first_by
def b_is_wish : EvS := (sSeq (sRet (eAnd (eIsi "str" (eVar 1)) (eAnd (eBin oEq (eCB cLen (aCons (eVar 1) aNil)) (eCB cLen (aCons (eVar 0) aNil))) (eCB cAll (aCons (eLc (.nm 3) [3] (iOf (eVar 1)) bYes (eBin oIn (eVar 3) (eVar 2))) aNil)))))
    sNil)
def F_is_wish : Fn := fnB 4 b_is_wish
def b_need_wish : EvS := (sSeq (sIf (bNot (bTru (eCall 3 F_is_wish (aCons (eVar 0) (aCons (eVar 1) (aCons (eC (.str "bgr")) aNil)))))) (sSeq sNo
    sNil) sNil)
    sNil)
def F_need_wish : Fn := fnB 2 b_need_wish
def b_ever : EvS := (sSeq (sExpr (eCall 3 F_need_all (aCons (eVar 0) (aCons (eVar 1) (aCons (eVar 2) aNil)))))
    (sSeq (sExpr (eCall 2 F_need_index (aCons (eVar 2) (aCons (eVar 3) aNil))))
    (sSeq (sSet 4 (eLc (.nm 5) [5] (iOf (eC (.str "bgr"))) (bOf (eBin oNotN (eCall 5 F_first_by (aCons (eVar 0) (aCons (eVar 1) (aCons (eVar 2) (aCons (eVar 3) (aCons (eVar 5) aNil)))))) (eC (.non)))) (eVar 5)))
    (sSeq (sRet (eMt "str" mJoin (eC (.str "")) (aCons (eVar 4) aNil)))
    sNil))))
def F_ever : Fn := fnB 6 b_ever
def b_first_line : EvS := (sSeq (sExpr (eCall 3 F_need_all (aCons (eVar 0) (aCons (eVar 1) (aCons (eVar 2) aNil)))))
    (sSeq (sExpr (eCall 2 F_need_index (aCons (eVar 2) (aCons (eVar 3) aNil))))
    (sSeq (sExpr (eCall 1 F_need_colour (aCons (eVar 4) aNil)))
    (sSeq (sRet (eCall 5 F_first_by (aCons (eVar 0) (aCons (eVar 1) (aCons (eVar 2) (aCons (eVar 3) (aCons (eVar 4) aNil)))))))
    sNil))))
def F_first_line : Fn := fnB 5 b_first_line
def b_first_off : EvS := (sSeq (sExpr (eCall 3 F_need_all (aCons (eVar 0) (aCons (eVar 1) (aCons (eVar 2) aNil)))))
    (sSeq (sExpr (eCall 2 F_need_wish (aCons (eVar 2) (aCons (eVar 3) aNil))))
    (sSeq (sSet 4 (eC (.non)))
    (sSeq (sFor (.nm 5) (iRange1 (aCons (eCB cLen (aCons (eVar 2) aNil)) aNil)) (sSeq (sFor (.nm 6) (iOf (eC (.str "bgr"))) (sSeq (sSet 7 (eIf (bOf (eBin oNe (eVar 6) (eBin oIx (eVar 3) (eVar 5)))) (eCall 5 F_first_by (aCons (eVar 0) (aCons (eVar 1) (aCons (eVar 2) (aCons (eVar 5) (aCons (eVar 6) aNil)))))) (eC (.non))))
    (sSeq (sIf (bAnd (bOf (eBin oNotN (eVar 7) (eC (.non)))) (bOr (bOf (eBin oIsN (eVar 4) (eC (.non)))) (bOf (eBin oLt (eVar 7) (eBin oIx (eVar 4) (eC (.int 0))))))) (sSeq (sSet 4 (eTup (aCons (eVar 7) (aCons (eVar 5) aNil))))
    sNil) sNil)
    sNil)))
    sNil))
    (sSeq (sRet (eVar 4))
    sNil)))))
def F_first_off : Fn := fnB 8 b_first_off
def b_moved_back : EvS := (sSeq (sSetM 3 (eLst aNil))
    (sSeq (sFor (.tu [(.nm 4), (.nm 5)]) (iOf (eVar 0)) (sSeq (sSet 6 (eBin oMod (eBin oSub (eVar 4) (eVar 1)) (eVar 2)))
    (sSeq (sSet 7 (eBin oSub (eBin oAdd (eVar 6) (eVar 5)) (eVar 4)))
    (sSeq (sIf (bOf (eBin oLt (eVar 7) (eVar 2))) (sSeq (sExpr (eLm appK (eVar 3) (aCons (eTup (aCons (eVar 6) (aCons (eVar 7) aNil))) aNil)))
    sNil) (sSeq (sExpr (eLm extK (eVar 3) (aCons (eLst (aCons (eTup (aCons (eVar 6) (aCons (eBin oSub (eVar 2) (eC (.int 1))) aNil))) (aCons (eTup (aCons (eC (.int 0)) (aCons (eBin oSub (eVar 7) (eVar 2)) aNil))) aNil))) aNil)))
    sNil))
    sNil))))
    (sSeq (sRet (eVar 3))
    sNil)))
def F_moved_back : Fn := fnB 8 b_moved_back
def b_shared : EvS := (sSeq (sSetM 2 (eLst aNil))
    (sSeq (sFor (.tu [(.nm 3), (.nm 4)]) (iOf (eVar 0)) (sSeq (sFor (.tu [(.nm 5), (.nm 6)]) (iOf (eVar 1)) (sSeq (sIf (bOf (eBin oLe (eCB cMax (aCons (eVar 3) (aCons (eVar 5) aNil))) (eCB cMin (aCons (eVar 4) (aCons (eVar 6) aNil))))) (sSeq (sExpr (eLm appK (eVar 2) (aCons (eTup (aCons (eCB cMax (aCons (eVar 3) (aCons (eVar 5) aNil))) (aCons (eCB cMin (aCons (eVar 4) (aCons (eVar 6) aNil))) aNil))) aNil)))
    sNil) sNil)
    sNil))
    sNil))
    (sSeq (sRet (eVar 2))
    sNil)))
def F_shared : Fn := fnB 7 b_shared
def b_joined : EvS := (sSeq (sSetM 1 (eLst aNil))
    (sSeq (sFor (.tu [(.nm 2), (.nm 3)]) (iOf (eCB cSorted (aCons (eVar 0) aNil))) (sSeq (sIf (bAnd (bOf (eBin oNe (eVar 1) (eLst aNil))) (bOf (eBin oGe (eBin oAdd (eBin oIx (eBin oIx (eVar 1) (eNeg (eC (.int 1)))) (eC (.int 1))) (eC (.int 1))) (eVar 2)))) (sSeq (sSub (eTup (aCons (eBin oIx (eBin oIx (eVar 1) (eNeg (eC (.int 1)))) (eC (.int 0))) (aCons (eCB cMax (aCons (eBin oIx (eBin oIx (eVar 1) (eNeg (eC (.int 1)))) (eC (.int 1))) (aCons (eVar 3) aNil))) aNil))) (eVar 1) (eNeg (eC (.int 1))))
    sNil) (sSeq (sExpr (eLm appK (eVar 1) (aCons (eTup (aCons (eVar 2) (aCons (eVar 3) aNil))) aNil)))
    sNil))
    sNil))
    (sSeq (sRet (eVar 1))
    sNil)))
def F_joined : Fn := fnB 4 b_joined
def b_begins_for : EvS := (sSeq (sExpr (eCall 1 F_need_machine (aCons (eVar 0) aNil)))
    (sSeq (sExpr (eCall 2 F_need_line (aCons (eVar 0) (aCons (eVar 1) aNil))))
    (sSeq (sIf (bNot (bTru (eCall 3 F_is_wish (aCons (eVar 1) (aCons (eVar 2) (aCons (eBin oAdd (eC (.str "bgr")) (eC (.str "."))) aNil)))))) (sSeq sNo
    sNil) sNil)
    (sSeq (sSet 3 (eBin oMul (eC (.int 2)) (eCall 1 F_length_by (aCons (eVar 0) aNil))))
    (sSeq (sSet 4 (eLst (aCons (eTup (aCons (eC (.int 0)) (aCons (eBin oSub (eVar 3) (eC (.int 1))) aNil))) aNil)))
    (sSeq (sFor (.tu [(.nm 5), (.nm 6)]) (iEnum (aCons (eVar 2) aNil)) (sSeq (sIf (bOf (eBin oNe (eVar 6) (eC (.str ".")))) (sSeq (sSet 7 (eCall 3 F_moved_back (aCons (eCall 2 F_arcs_of (aCons (eVar 0) (aCons (eVar 6) aNil))) (aCons (eCall 2 F_steps_by (aCons (eVar 0) (aCons (eSl (eVar 1) sNone (sSome (eVar 5))) aNil))) (aCons (eVar 3) aNil)))))
    (sSeq (sSet 4 (eCall 1 F_joined (aCons (eCall 2 F_shared (aCons (eVar 4) (aCons (eCall 1 F_joined (aCons (eVar 7) aNil)) aNil))) aNil)))
    sNil)) sNil)
    sNil))
    (sSeq (sRet (eVar 4))
    sNil)))))))
def F_begins_for : Fn := fnB 8 b_begins_for
def b_number_of : EvS := (sSeq (sIf (bOr (bOf (eBin oEq (eVar 0) (eC (.str "")))) (bOr (bOf (eBin oGt (eCB cLen (aCons (eVar 0) aNil)) (eC (.int 31)))) (bNot (bTru (eCB cAll (aCons (eLc (.nm 1) [1] (iOf (eVar 0)) bYes (eBin oIn (eVar 1) (eC (.str "0123456789")))) aNil)))))) (sSeq (sRet (eNeg (eC (.int 1))))
    sNil) sNil)
    (sSeq (sRet (eIf (bOf (eBin oEq (eCB cStr (aCons (eCB cInt (aCons (eVar 0) aNil)) aNil)) (eVar 0))) (eCB cInt (aCons (eVar 0) aNil)) (eNeg (eC (.int 1)))))
    sNil))
def F_number_of : Fn := fnB 2 b_number_of
def b_machine_text : EvS := (sSeq (sExpr (eCall 1 F_need_machine (aCons (eVar 0) aNil)))
    (sSeq (sSet 1 (eMt "str" mJoin (eC (.str " ")) (aCons (eLc (.tu [(.nm 2), (.nm 3)]) [2, 3] (iOf (eBin oIx (eVar 0) (eC (.int 0)))) bYes (eBin oAdd (eVar 2) (eCB cStr (aCons (eVar 3) aNil)))) aNil)))
    (sSeq (sRet (eBin oAdd (eBin oAdd (eVar 1) (eC (.str " / "))) (eMt "str" mJoin (eC (.str " ")) (aCons (eLc (.nm 4) [4] (iOf (eBin oIx (eVar 0) (eC (.int 1)))) bYes (eCB cStr (aCons (eVar 4) aNil))) aNil))))
    sNil)))
def F_machine_text : Fn := fnB 5 b_machine_text
def b_read_machine : EvS := (sSeq (sSet 1 (eIf (bTru (eIsi "str" (eVar 0))) (eMt "str" mSplit (eVar 0) (aCons (eC (.str " / ")) aNil)) (eLst aNil)))
    (sSeq (sSet 2 (eTup (aCons (eTup aNil) (aCons (eTup aNil) aNil))))
    (sSeq (sIf (bOf (eBin oEq (eCB cLen (aCons (eVar 1) aNil)) (eC (.int 2)))) (sSeq (sSet 3 (eCB cTuple (aCons (eLc (.nm 4) [4] (iOf (eMt "str" mSplit (eBin oIx (eVar 1) (eC (.int 0))) (aCons (eC (.str " ")) aNil))) bYes (eTup (aCons (eSl (eVar 4) sNone (sSome (eC (.int 1)))) (aCons (eCall 1 F_number_of (aCons (eSl (eVar 4) (sSome (eC (.int 1))) sNone) aNil)) aNil)))) aNil)))
    (sSeq (sSet 2 (eTup (aCons (eVar 3) (aCons (eCB cTuple (aCons (eLc (.nm 4) [4] (iOf (eMt "str" mSplit (eBin oIx (eVar 1) (eC (.int 1))) (aCons (eC (.str " ")) aNil))) bYes (eCall 1 F_number_of (aCons (eVar 4) aNil))) aNil)) aNil))))
    sNil)) sNil)
    (sSeq (sIf (bNot (bTru (eCall 1 F_is_machine (aCons (eVar 2) aNil)))) (sSeq sNo
    sNil) sNil)
    (sSeq (sRet (eVar 2))
    sNil)))))
def F_read_machine : Fn := fnB 5 b_read_machine
def b_times_of : EvS := (sSeq (sUnp (.tu [(.nm 3), (.nm 4), (.nm 5), (.nm 6)]) (eTup (aCons (eVar 2) (aCons (eBin oMod (eVar 0) (eVar 2)) (aCons (eC (.int 0)) (aCons (eC (.int 1)) aNil))))))
    (sSeq (sWhile (bOf (eBin oGt (eVar 4) (eC (.int 0)))) (sSeq (sSet 7 (eBin oFdiv (eVar 3) (eVar 4)))
    (sSeq (sUnp (.tu [(.nm 3), (.nm 4), (.nm 5), (.nm 6)]) (eTup (aCons (eVar 4) (aCons (eBin oSub (eVar 3) (eBin oMul (eVar 7) (eVar 4))) (aCons (eVar 6) (aCons (eBin oSub (eVar 5) (eBin oMul (eVar 7) (eVar 6))) aNil))))))
    sNil)))
    (sSeq (sRet (eBin oMod (eBin oMul (eVar 5) (eVar 1)) (eVar 2)))
    sNil)))
def F_times_of : Fn := fnB 8 b_times_of
def b_hits : EvS := (sSeq (sSet 5 (eCall 2 F_divisor (aCons (eVar 2) (aCons (eBin oMod (eVar 1) (eVar 2)) aNil))))
    (sSeq (sIf (bOf (eBin oNe (eBin oMod (eBin oSub (eVar 3) (eVar 0)) (eVar 5)) (eC (.int 0)))) (sSeq (sRet (eC (.int 0)))
    sNil) sNil)
    (sSeq (sSet 6 (eBin oFdiv (eVar 2) (eVar 5)))
    (sSeq (sSet 7 (eCall 3 F_times_of (aCons (eBin oFdiv (eVar 1) (eVar 5)) (aCons (eBin oMod (eBin oFdiv (eBin oSub (eVar 3) (eVar 0)) (eVar 5)) (eVar 6)) (aCons (eVar 6) aNil)))))
    (sSeq (sRet (eIf (bOf (eBin oLt (eVar 7) (eVar 4))) (eBin oAdd (eBin oFdiv (eBin oSub (eBin oSub (eVar 4) (eC (.int 1))) (eVar 7)) (eVar 6)) (eC (.int 1))) (eC (.int 0))))
    sNil)))))
def F_hits : Fn := fnB 8 b_hits
def b_standings_by : EvS := (sSeq (sRet (eLc (.nm 3) [3] (iRange1 (aCons (eCB cLen (aCons (eVar 2) aNil)) aNil)) bYes (eCall 5 F_standing_by (aCons (eVar 0) (aCons (eVar 1) (aCons (eVar 2) (aCons (eC (.int 0)) (aCons (eVar 3) aNil))))))))
    sNil)
def F_standings_by : Fn := fnB 4 b_standings_by
def b_classes_of : EvS := (sSeq (sSet 3 (eBin oMul (eC (.int 2)) (eCall 1 F_length_by (aCons (eVar 0) aNil))))
    (sSeq (sSet 4 (eCall 2 F_divisor (aCons (eVar 3) (aCons (eBin oMod (eCall 2 F_steps_by (aCons (eVar 0) (aCons (eVar 2) aNil))) (eVar 3)) aNil))))
    (sSeq (sRet (eTup (aCons (eVar 4) (aCons (eLc (.nm 5) [5] (iOf (eCall 3 F_standings_by (aCons (eVar 0) (aCons (eVar 1) (aCons (eVar 2) aNil))))) bYes (eBin oMod (eVar 5) (eVar 4))) aNil))))
    sNil)))
def F_classes_of : Fn := fnB 6 b_classes_of
def b_strikes_by : EvS := (sSeq (sUnp (.tu [(.nm 4), (.nm 5)]) (eCall 3 F_classes_of (aCons (eVar 0) (aCons (eVar 1) (aCons (eVar 2) aNil)))))
    (sSeq (sRet (eBin oAdd (eMt "list" mCount (eVar 5) (aCons (eBin oMod (eVar 3) (eVar 4)) aNil)) (eMt "list" mCount (eVar 5) (aCons (eBin oMod (eBin oSub (eBin oSub (eBin oMul (eC (.int 2)) (eCall 1 F_length_by (aCons (eVar 0) aNil))) (eC (.int 1))) (eVar 3)) (eVar 4)) aNil))))
    sNil))
def F_strikes_by : Fn := fnB 6 b_strikes_by
def b_wear : EvS := (sSeq (sExpr (eCall 3 F_need_all (aCons (eVar 0) (aCons (eVar 1) (aCons (eVar 2) aNil)))))
    (sSeq (sExpr (eCall 1 F_need_number (aCons (eVar 3) aNil)))
    (sSeq (sExpr (eCall 2 F_need_place (aCons (eVar 0) (aCons (eVar 4) aNil))))
    (sSeq (sPar [7, 8] (aCons (eBin oMul (eC (.int 2)) (eCall 1 F_length_by (aCons (eVar 0) aNil))) (aCons (eCall 2 F_steps_by (aCons (eVar 0) (aCons (eVar 2) aNil))) aNil)))
    (sSeq (sSet 5 (eC (.int 0)))
    (sSeq (sFor (.nm 6) (iOf (eCall 3 F_standings_by (aCons (eVar 0) (aCons (eVar 1) (aCons (eVar 2) aNil))))) (sSeq (sFor (.nm 9) (iOf (eTup (aCons (eVar 4) (aCons (eBin oSub (eBin oSub (eVar 7) (eC (.int 1))) (eVar 4)) aNil)))) (sSeq (sAug 5 oIadd (eCall 5 F_hits (aCons (eVar 6) (aCons (eVar 8) (aCons (eVar 7) (aCons (eVar 9) (aCons (eVar 3) aNil)))))))
    sNil))
    sNil))
    (sSeq (sRet (eVar 5))
    sNil)))))))
def F_wear : Fn := fnB 10 b_wear
def b_ever_struck : EvS := (sSeq (sExpr (eCall 3 F_need_all (aCons (eVar 0) (aCons (eVar 1) (aCons (eVar 2) aNil)))))
    (sSeq (sExpr (eCall 2 F_need_place (aCons (eVar 0) (aCons (eVar 3) aNil))))
    (sSeq (sRet (eBin oGt (eCall 4 F_strikes_by (aCons (eVar 0) (aCons (eVar 1) (aCons (eVar 2) (aCons (eVar 3) aNil))))) (eC (.int 0))))
    sNil)))
def F_ever_struck : Fn := fnB 4 b_ever_struck
def b_first_unstruck : EvS := (sSeq (sExpr (eCall 3 F_need_all (aCons (eVar 0) (aCons (eVar 1) (aCons (eVar 2) aNil)))))
    (sSeq (sFor (.nm 3) (iRange1 (aCons (eCB cMin (aCons (eCall 1 F_length_by (aCons (eVar 0) aNil)) (aCons (eBin oAdd (eBin oMul (eC (.int 2)) (eCB cLen (aCons (eVar 2) aNil))) (eC (.int 1))) aNil))) aNil)) (sSeq (sIf (bOf (eBin oEq (eCall 4 F_strikes_by (aCons (eVar 0) (aCons (eVar 1) (aCons (eVar 2) (aCons (eVar 3) aNil))))) (eC (.int 0)))) (sSeq (sRet (eVar 3))
    sNil) sNil)
    sNil))
    (sSeq (sRet (eC (.non)))
    sNil)))
def F_first_unstruck : Fn := fnB 4 b_first_unstruck
def b_is_even : EvS := (sSeq (sExpr (eCall 3 F_need_all (aCons (eVar 0) (aCons (eVar 1) (aCons (eVar 2) aNil)))))
    (sSeq (sSet 3 (eBin oIx (eCall 3 F_classes_of (aCons (eVar 0) (aCons (eVar 1) (aCons (eVar 2) aNil)))) (eC (.int 0))))
    (sSeq (sSet 4 (eCB cMin (aCons (eCall 1 F_length_by (aCons (eVar 0) aNil)) (aCons (eVar 3) aNil))))
    (sSeq (sIf (bOf (eBin oGt (eVar 4) (eBin oMul (eC (.int 2)) (eCB cLen (aCons (eVar 2) aNil))))) (sSeq (sRet (eC (.bl false)))
    sNil) sNil)
    (sSeq (sSet 5 (eLc (.nm 6) [6] (iRange1 (aCons (eVar 4) aNil)) bYes (eCall 4 F_strikes_by (aCons (eVar 0) (aCons (eVar 1) (aCons (eVar 2) (aCons (eVar 6) aNil)))))))
    (sSeq (sRet (eBin oEq (eCB cMin (aCons (eVar 5) aNil)) (eCB cMax (aCons (eVar 5) aNil))))
    sNil))))))
def F_is_even : Fn := fnB 7 b_is_even
def b_ahead : EvS := (sSeq (sUnp (.tu [(.nm 4), (.nm 5)]) (eTup (aCons (eBin oMul (eC (.int 2)) (eCall 1 F_length_by (aCons (eVar 0) aNil))) (aCons (eCall 2 F_arcs_of (aCons (eVar 0) (aCons (eVar 2) aNil))) aNil))))
    (sSeq (sSet 3 (eLc (.tu [(.nm 6), (.nm 7)]) [6, 7] (iOf (eVar 5)) bYes (eIf (bOf (eChain oLe oLe (eVar 6) (eVar 1) (eVar 7))) (eC (.int 0)) (eBin oMod (eBin oSub (eVar 6) (eVar 1)) (eVar 4)))))
    (sSeq (sRet (eIf (bOf (eBin oNe (eVar 3) (eLst aNil))) (eCB cMin (aCons (eVar 3) aNil)) (eC (.non))))
    sNil)))
def F_ahead : Fn := fnB 8 b_ahead
def b_blind_steps : EvS := (sSeq (sExpr (eCall 3 F_need_all (aCons (eVar 0) (aCons (eVar 1) (aCons (eVar 2) aNil)))))
    (sSeq (sExpr (eCall 2 F_need_wish (aCons (eVar 2) (aCons (eVar 3) aNil))))
    (sSeq (sPar [4, 5] (aCons (eTup aNil) (aCons (eVar 1) aNil)))
    (sSeq (sFor (.tu [(.nm 6), (.nm 7)]) (iZip (aCons (eVar 2) (aCons (eVar 3) aNil))) (sSeq (sSet 8 (eCall 3 F_ahead (aCons (eVar 0) (aCons (eVar 5) (aCons (eVar 7) aNil)))))
    (sSeq (sIf (bOf (eBin oIsN (eVar 8) (eC (.non)))) (sSeq (sRet (eC (.non)))
    sNil) sNil)
    (sSeq (sAug 4 oIadd (eTup (aCons (eVar 8) aNil)))
    (sSeq (sSet 5 (eBin oMod (eBin oAdd (eBin oAdd (eVar 5) (eVar 8)) (eCall 2 F_step_of (aCons (eVar 0) (aCons (eVar 6) aNil)))) (eBin oMul (eC (.int 2)) (eCall 1 F_length_by (aCons (eVar 0) aNil)))))
    sNil)))))
    (sSeq (sRet (eVar 4))
    sNil)))))
def F_blind_steps : Fn := fnB 9 b_blind_steps
def b__law_spool : EvS := (sSeq (sSet 2 (eIf (bOf (eBin oLt (eVar 1) (eCB cLen (aCons (eVar 0) aNil)))) (eCB cAbs (aCons (eCB cInt (aCons (eBin oIx (eVar 0) (eVar 1)) aNil)) aNil)) (eBin oAdd (eBin oMul (eC (.int 601)) (eVar 1)) (eC (.int 113)))))
    (sSeq (sRet (eLst (aCons (eIf (bOf (eBin oGe (eVar 2) (eBin oPow (eC (.int 10)) (eC (.int 18))))) (eVar 2) (eC (.int 0))) (aCons (eBin oAdd (eBin oMod (eCB cInt (aCons (eBin oAdd (eBin oAdd (eBin oMul (eVar 2) (eC (.int 71))) (eBin oMul (eC (.int 4603)) (eVar 1))) (eC (.int 57))) aNil)) (eC (.int 2147483423))) (eC (.int 1))) aNil))))
    sNil))
def F__law_spool : Fn := fnB 3 b__law_spool
def b__law_unwind : EvS := (sSeq (sIf (bOf (eBin oGt (eBin oIx (eVar 0) (eC (.int 0))) (eC (.int 0)))) (sSeq (sSet 3 (eBin oMod (eCB cInt (aCons (eBin oIx (eVar 0) (eC (.int 0))) aNil)) (eVar 1)))
    (sSeq (sSub (eBin oFdiv (eBin oIx (eVar 0) (eC (.int 0))) (eVar 1)) (eVar 0) (eC (.int 0)))
    (sSeq (sRet (eVar 3))
    sNil))) sNil)
    (sSeq (sSub (eBin oMod (eCB cInt (aCons (eBin oAdd (eBin oMul (eBin oIx (eVar 0) (eC (.int 1))) (eC (.int 42293))) (eC (.int 239))) aNil)) (eC (.int 2147483423))) (eVar 0) (eC (.int 1)))
    (sSeq (sSet 2 (eBin oMod (eCB cInt (aCons (eBin oMul (eBin oIx (eVar 0) (eC (.int 1))) (eBin oAdd (eBin oFdiv (eBin oIx (eVar 0) (eC (.int 1))) (eC (.int 5))) (eC (.int 61)))) aNil)) (eC (.int 2147483399))))
    (sSeq (sRet (eBin oMod (eCB cInt (aCons (eBin oFdiv (eVar 2) (eC (.int 32))) aNil)) (eVar 1)))
    sNil))))
def F__law_unwind : Fn := fnB 4 b__law_unwind
def b__law_pick : EvS := (sSeq (sRet (eBin oIx (eVar 1) (eCall 2 F__law_unwind (aCons (eVar 0) (aCons (eCB cLen (aCons (eVar 1) aNil)) aNil)))))
    sNil)
def F__law_pick : Fn := fnB 2 b__law_pick
def b__law_small : EvS := (sSeq (sUnp (.tu [(.nm 1), (.nm 2)]) (eTup (aCons (eTup (aCons (eTup (aCons (eTup (aCons (eC (.str "b")) (aCons (eC (.int 2)) aNil))) (aCons (eTup (aCons (eC (.str "r")) (aCons (eC (.int 3)) aNil))) aNil))) (aCons (eTup (aCons (eC (.int 1)) (aCons (eC (.int 2)) aNil))) aNil))) (aCons (eTup (aCons (eTup (aCons (eTup (aCons (eC (.str "b")) (aCons (eC (.int 1)) aNil))) (aCons (eTup (aCons (eC (.str "g")) (aCons (eC (.int 1)) aNil))) (aCons (eTup (aCons (eC (.str "b")) (aCons (eC (.int 4)) aNil))) aNil)))) (aCons (eTup (aCons (eC (.int 0)) (aCons (eC (.int 3)) (aCons (eC (.int 4)) aNil)))) aNil))) aNil))))
    (sSeq (sSetM 0 (eLst (aCons (eBin oEq (eMt "str" mJoin (eC (.str "")) (aCons (eLc (.nm 3) [3] (iRange1 (aCons (eC (.int 10)) aNil)) bYes (eCall 2 F_colour_of (aCons (eVar 1) (aCons (eVar 3) aNil)))) aNil)) (eC (.str "bbrrrrrrbb"))) (aCons (eBin oEq (eCall 2 F_place_of (aCons (eVar 1) (aCons (eC (.int 5)) aNil))) (eC (.int 4))) aNil))))
    (sSeq (sExpr (eLm appK (eVar 0) (aCons (eAnd (eBin oEq (eCall 5 F_standing (aCons (eVar 1) (aCons (eC (.int 0)) (aCons (eC (.str "xy")) (aCons (eC (.int 3)) (aCons (eC (.int 1)) aNil)))))) (eC (.int 0))) (eBin oEq (eCall 4 F_colours (aCons (eVar 1) (aCons (eC (.int 0)) (aCons (eC (.str "xyx")) (aCons (eC (.int 1)) aNil))))) (eC (.str "rrr")))) aNil)))
    (sSeq (sExpr (eLm appK (eVar 0) (aCons (eBin oEq (eLst (aCons (eCall 2 F_period (aCons (eVar 1) (aCons (eC (.str "xy")) aNil))) (aCons (eCall 2 F_period (aCons (eVar 1) (aCons (eC (.str "xyx")) aNil))) (aCons (eCall 2 F_period (aCons (eVar 2) (aCons (eC (.str "xxx")) aNil))) aNil)))) (eLst (aCons (eC (.int 10)) (aCons (eC (.int 5)) (aCons (eC (.int 1)) aNil))))) aNil)))
    (sSeq (sExpr (eLm appK (eVar 0) (aCons (eAnd (eBin oEq (eCall 4 F_ever (aCons (eVar 1) (aCons (eC (.int 0)) (aCons (eC (.str "xyx")) (aCons (eC (.int 0)) aNil))))) (eC (.str "br"))) (eAnd (eBin oEq (eCall 4 F_ever (aCons (eVar 2) (aCons (eC (.int 1)) (aCons (eC (.str "yy")) (aCons (eC (.int 0)) aNil))))) (eC (.str "bg"))) (eBin oEq (eCall 4 F_ever (aCons (eVar 2) (aCons (eC (.int 0)) (aCons (eC (.str "yy")) (aCons (eC (.int 0)) aNil))))) (eC (.str "b"))))) aNil)))
    (sSeq (sExpr (eLm appK (eVar 0) (aCons (eAnd (eBin oEq (eCall 5 F_first_line (aCons (eVar 1) (aCons (eC (.int 0)) (aCons (eC (.str "xyx")) (aCons (eC (.int 0)) (aCons (eC (.str "r")) aNil)))))) (eC (.int 1))) (eBin oIsN (eCall 5 F_first_line (aCons (eVar 1) (aCons (eC (.int 0)) (aCons (eC (.str "xyx")) (aCons (eC (.int 0)) (aCons (eC (.str "g")) aNil)))))) (eC (.non)))) aNil)))
    (sSeq (sExpr (eLm appK (eVar 0) (aCons (eAnd (eBin oEq (eCall 4 F_first_off (aCons (eVar 1) (aCons (eC (.int 0)) (aCons (eC (.str "xyx")) (aCons (eC (.str "bbr")) aNil))))) (eTup (aCons (eC (.int 1)) (aCons (eC (.int 0)) aNil)))) (eBin oIsN (eCall 4 F_first_off (aCons (eVar 2) (aCons (eC (.int 0)) (aCons (eC (.str "yy")) (aCons (eC (.str "bb")) aNil))))) (eC (.non)))) aNil)))
    (sSeq (sExpr (eLm appK (eVar 0) (aCons (eAnd (eBin oEq (eLc (.nm 4) [4] (iRange1 (aCons (eC (.int 5)) aNil)) bYes (eCall 5 F_wear (aCons (eVar 1) (aCons (eC (.int 0)) (aCons (eC (.str "xyx")) (aCons (eC (.int 5)) (aCons (eVar 4) aNil))))))) (eBin oMul (eLst (aCons (eC (.int 3)) aNil)) (eC (.int 5)))) (eCall 3 F_is_even (aCons (eVar 1) (aCons (eC (.int 0)) (aCons (eC (.str "xyx")) aNil))))) aNil)))
    (sSeq (sExpr (eLm appK (eVar 0) (aCons (eAnd (eBin oEq (eCall 3 F_first_unstruck (aCons (eVar 2) (aCons (eC (.int 0)) (aCons (eC (.str "yy")) aNil)))) (eC (.int 1))) (eAnd (eNot (eCall 4 F_ever_struck (aCons (eVar 2) (aCons (eC (.int 0)) (aCons (eC (.str "yy")) (aCons (eC (.int 1)) aNil)))))) (eNot (eCall 3 F_is_even (aCons (eVar 2) (aCons (eC (.int 0)) (aCons (eC (.str "yy")) aNil))))))) aNil)))
    (sSeq (sExpr (eLm appK (eVar 0) (aCons (eBin oEq (eCall 3 F_begins_for (aCons (eVar 1) (aCons (eC (.str "xyx")) (aCons (eC (.str "bbr")) aNil)))) (eLst (aCons (eTup (aCons (eC (.int 0)) (aCons (eC (.int 0)) aNil))) (aCons (eTup (aCons (eC (.int 9)) (aCons (eC (.int 9)) aNil))) aNil)))) aNil)))
    (sSeq (sExpr (eLm appK (eVar 0) (aCons (eBin oEq (eCall 3 F_begins_for (aCons (eVar 2) (aCons (eC (.str "xy")) (aCons (eC (.str ".g")) aNil)))) (eLst (aCons (eTup (aCons (eC (.int 1)) (aCons (eC (.int 1)) aNil))) (aCons (eTup (aCons (eC (.int 10)) (aCons (eC (.int 10)) aNil))) aNil)))) aNil)))
    (sSeq (sExpr (eLm appK (eVar 0) (aCons (eAnd (eBin oEq (eCall 4 F_blind_steps (aCons (eVar 1) (aCons (eC (.int 0)) (aCons (eC (.str "xyx")) (aCons (eC (.str "brb")) aNil))))) (eTup (aCons (eC (.int 0)) (aCons (eC (.int 1)) (aCons (eC (.int 4)) aNil))))) (eBin oEq (eCall 4 F_blind_steps (aCons (eVar 1) (aCons (eC (.int 0)) (aCons (eC (.str "xx")) (aCons (eC (.str "rb")) aNil))))) (eTup (aCons (eC (.int 2)) (aCons (eC (.int 5)) aNil))))) aNil)))
    (sSeq (sRet (eBin oAdd (eVar 0) (eLst (aCons (eAnd (eBin oEq (eCall 1 F_machine_text (aCons (eVar 1) aNil)) (eC (.str "b2 r3 / 1 2"))) (eBin oEq (eCall 1 F_read_machine (aCons (eC (.str "b1 g1 b4 / 0 3 4")) aNil)) (eVar 2))) aNil))))
    sNil)))))))))))))
def F__law_small : Fn := fnB 5 b__law_small
def b__law_more : EvS := (sSeq (sPar [2, 3] (aCons (eBin oAdd (eC (.int 2)) (eBin oMul (eC (.int 7)) (eBin oAdd (eBin oFdiv (eBin oSub (eVar 0) (eC (.int 2))) (eC (.int 7))) (eCB cInt (aCons (eBin oGt (eBin oMod (eBin oSub (eVar 0) (eC (.int 2))) (eC (.int 7))) (eC (.int 0))) aNil))))) (aCons (eC (.int 0)) aNil)))
    (sSeq (sFor (.nm 1) (iRange1 (aCons (eC (.int 20)) aNil)) (sSeq (sIf (bOf (eBin oIn (eBin oMod (eVar 2) (eBin oMul (eC (.int 2)) (eVar 0))) (eTup (aCons (eBin oSub (eVar 0) (eC (.int 1))) (aCons (eVar 0) aNil))))) (sSeq (sRet (eVar 3))
    sNil) sNil)
    (sSeq (sSet 4 (eBin oMod (eVar 2) (eBin oMul (eC (.int 2)) (eVar 0))))
    (sSeq (sSet 5 (eC (.int 1)))
    (sSeq (sIf (bOf (eBin oGt (eVar 4) (eVar 0))) (sSeq (sSet 5 (eBin oFdiv (eBin oAdd (eBin oSub (eBin oMul (eC (.int 2)) (eVar 0)) (eVar 4)) (eC (.int 6))) (eC (.int 7))))
    sNil) (sSeq (sIf (bOf (eBin oLt (eVar 4) (eBin oSub (eVar 0) (eC (.int 1))))) (sSeq (sSet 5 (eBin oFdiv (eBin oAdd (eBin oSub (eBin oSub (eVar 0) (eC (.int 1))) (eVar 4)) (eC (.int 6))) (eC (.int 7))))
    sNil) sNil)
    sNil))
    (sSeq (sPar [2, 3] (aCons (eBin oAdd (eVar 2) (eBin oMul (eC (.int 7)) (eVar 5))) (aCons (eBin oAdd (eVar 3) (eVar 5)) aNil)))
    sNil))))))
    (sSeq (sRet (eNeg (eC (.int 1))))
    sNil)))
def F__law_more : Fn := fnB 6 b__law_more
def b__law_great : EvS := (sSeq (sSet 1 (eTup (aCons (eTup (aCons (eTup (aCons (eC (.str "b")) (aCons (eBin oSub (eVar 0) (eC (.int 1))) aNil))) (aCons (eTup (aCons (eC (.str "r")) (aCons (eC (.int 1)) aNil))) aNil))) (aCons (eTup (aCons (eC (.int 1)) (aCons (eC (.int 7)) aNil))) aNil))))
    (sSeq (sSetM 2 (eLst (aCons (eBin oEq (eCall 5 F_first_line (aCons (eVar 1) (aCons (eC (.int 0)) (aCons (eC (.str "y")) (aCons (eC (.int 0)) (aCons (eC (.str "r")) aNil)))))) (eBin oFdiv (eBin oSub (eVar 0) (eC (.int 1))) (eC (.int 7)))) (aCons (eBin oEq (eCall 4 F_first_off (aCons (eVar 1) (aCons (eC (.int 0)) (aCons (eC (.str "x")) (aCons (eC (.str "b")) aNil))))) (eTup (aCons (eBin oSub (eVar 0) (eC (.int 1))) (aCons (eC (.int 0)) aNil)))) aNil))))
    (sSeq (sExpr (eLm appK (eVar 2) (aCons (eAnd (eBin oEq (eCall 2 F_period (aCons (eVar 1) (aCons (eC (.str "x")) aNil))) (eBin oMul (eC (.int 2)) (eVar 0))) (eBin oEq (eCall 5 F_wear (aCons (eVar 1) (aCons (eC (.int 0)) (aCons (eC (.str "x")) (aCons (eVar 0) (aCons (eC (.int 5)) aNil)))))) (eC (.int 1)))) aNil)))
    (sSeq (sExpr (eLm appK (eVar 2) (aCons (eBin oEq (eCall 3 F_begins_for (aCons (eVar 1) (aCons (eC (.str "x")) (aCons (eC (.str "r")) aNil)))) (eLst (aCons (eTup (aCons (eBin oSub (eVar 0) (eC (.int 1))) (aCons (eVar 0) aNil))) aNil))) aNil)))
    (sSeq (sExpr (eLm appK (eVar 2) (aCons (eBin oEq (eCall 4 F_blind_steps (aCons (eVar 1) (aCons (eC (.int 0)) (aCons (eC (.str "yx")) (aCons (eC (.str "rr")) aNil))))) (eTup (aCons (eBin oSub (eVar 0) (eC (.int 1))) (aCons (eBin oSub (eBin oMul (eC (.int 2)) (eVar 0)) (eC (.int 7))) aNil)))) aNil)))
    (sSeq (sExpr (eLm appK (eVar 2) (aCons (eAnd (eBin oEq (eCall 5 F_first_line (aCons (eVar 1) (aCons (eBin oAdd (eVar 0) (eC (.int 1))) (aCons (eC (.str "x")) (aCons (eC (.int 0)) (aCons (eC (.str "r")) aNil)))))) (eBin oSub (eBin oMul (eC (.int 2)) (eVar 0)) (eC (.int 2)))) (eBin oEq (eCall 4 F_ever (aCons (eVar 1) (aCons (eC (.int 3)) (aCons (eC (.str "y")) (aCons (eC (.int 0)) aNil))))) (eC (.str "br")))) aNil)))
    (sSeq (sExpr (eLm appK (eVar 2) (aCons (eBin oEq (eCall 5 F_first_line (aCons (eVar 1) (aCons (eC (.int 2)) (aCons (eC (.str "y")) (aCons (eC (.int 0)) (aCons (eC (.str "r")) aNil)))))) (eBin oAdd (eBin oAdd (eBin oFdiv (eBin oSub (eVar 0) (eC (.int 2))) (eC (.int 7))) (eCB cInt (aCons (eBin oGt (eBin oMod (eBin oSub (eVar 0) (eC (.int 2))) (eC (.int 7))) (eC (.int 0))) aNil))) (eCall 1 F__law_more (aCons (eVar 0) aNil)))) aNil)))
    (sSeq (sRet (eVar 2))
    sNil))))))))
def F__law_great : Fn := fnB 3 b__law_great
def b_law : EvS := (sSeq (sFor (.nm 1) (iRange1 (aCons (eCB cMax (aCons (eC (.int 3)) (aCons (eCB cMin (aCons (eC (.int 6)) (aCons (eCB cLen (aCons (eVar 0) aNil)) aNil))) aNil))) aNil)) (sSeq (sSetM 2 (eCall 2 F__law_spool (aCons (eVar 0) (aCons (eVar 1) aNil))))
    (sSeq (sSet 3 (eBin oAdd (eBin oMul (eC (.int 7)) (eBin oAdd (eC (.int 3)) (eCall 2 F__law_unwind (aCons (eVar 2) (aCons (eCall 2 F__law_pick (aCons (eVar 2) (aCons (eLst (aCons (eC (.int 9)) (aCons (eBin oPow (eC (.int 10)) (eC (.int 9))) (aCons (eBin oPow (eC (.int 10)) (eC (.int 28))) aNil)))) aNil))) aNil))))) (eC (.int 1))))
    (sSeq (sIf (bOf (eBin oIn (eC (.bl false)) (eCall 1 F__law_great (aCons (eVar 3) aNil)))) (sSeq (sRet (eC (.bl false)))
    sNil) sNil)
    sNil))))
    (sSeq (sRet (eBin oNotIn (eC (.bl false)) (eCall 0 F__law_small aNil)))
    sNil))
def F_law : Fn := fnB 4 b_law
/-! ### the head -/
def top (i : Nat) : Stmt := PySem.Challenge.pw_stampribbon_k14_known_ribbons_by_hand.main.body.getD i (.Pass ⟨0, 0, 0, 0⟩)
def dd (x : Str) (i : Nat) : He.DefD := ⟨(x, none), x, x, defArgs (top i), defBody (top i), defScope (top i), [], []⟩
def fnL : List He.DefD := [dd "is_integer" 18,
  dd "is_letter" 19,
  dd "is_stretch" 20,
  dd "is_machine" 21,
  dd "signs_of" 22,
  dd "are_signs" 23,
  dd "length_by" 24,
  dd "step_of" 25,
  dd "steps_by" 26,
  dd "place_by" 27,
  dd "colour_by" 28,
  dd "arcs_of" 29,
  dd "need_machine" 30,
  dd "need_standing" 31,
  dd "need_line" 32,
  dd "need_number" 33,
  dd "need_index" 34,
  dd "need_place" 35,
  dd "need_colour" 36,
  dd "need_all" 37,
  dd "place_of" 38,
  dd "colour_of" 39,
  dd "divisor" 41,
  dd "standing_by" 42,
  dd "colours_by" 43,
  dd "standing" 44,
  dd "colours" 45,
  dd "period" 46,
  dd "first_rest" 48,
  dd "first_hit" 49,
  dd "first_by" 50,
  dd "is_wish" 51,
  dd "need_wish" 52,
  dd "ever" 53,
  dd "first_line" 54,
  dd "first_off" 55,
  dd "moved_back" 57,
  dd "shared" 58,
  dd "joined" 59,
  dd "begins_for" 60,
  dd "number_of" 63,
  dd "machine_text" 64,
  dd "read_machine" 65,
  dd "times_of" 67,
  dd "hits" 68,
  dd "standings_by" 69,
  dd "classes_of" 70,
  dd "strikes_by" 71,
  dd "wear" 72,
  dd "ever_struck" 73,
  dd "first_unstruck" 74,
  dd "is_even" 75,
  dd "ahead" 77,
  dd "blind_steps" 78,
  dd "_law_spool" 80,
  dd "_law_unwind" 81,
  dd "_law_pick" 82,
  dd "_law_small" 83,
  dd "_law_great" 84,
  dd "_law_more" 85,
  dd "law" 86]
def faL0 : List He.Fa := [.glo "is_integer", .glo "is_letter", .glo "is_stretch", .glo "is_machine", .glo "signs_of", .glo "are_signs", .glo "length_by", .glo "step_of", .glo "steps_by", .glo "place_by", .glo "colour_by", .glo "arcs_of", .glo "need_machine", .glo "need_standing", .glo "need_line", .glo "need_number", .glo "need_index", .glo "need_place", .glo "need_colour", .glo "need_all", .glo "place_of", .glo "colour_of", .glo "divisor", .glo "standing_by", .glo "colours_by", .glo "standing", .glo "colours", .glo "period", .glo "first_rest", .glo "first_hit"]
def faL1 : List He.Fa := [.glo "first_by", .glo "is_wish", .glo "need_wish", .glo "ever", .glo "first_line", .glo "first_off", .glo "moved_back", .glo "shared", .glo "joined", .glo "begins_for", .glo "number_of", .glo "machine_text", .glo "read_machine", .glo "times_of", .glo "hits", .glo "standings_by", .glo "classes_of", .glo "strikes_by", .glo "wear", .glo "ever_struck", .glo "first_unstruck", .glo "is_even", .glo "ahead", .glo "blind_steps", .glo "_law_spool", .glo "_law_unwind", .glo "_law_pick", .glo "_law_small", .glo "_law_great", .glo "_law_more"]
def faL2 : List He.Fa := [.glo "law", .free "isinstance", .free "len", .free "abs", .free "max", .free "min", .free "sum", .free "all", .free "sorted", .free "int", .free "str", .free "tuple", .free "list", .free "bool", .free "range", .free "zip", .free "enumerate", .int "GREAT" (10 ^ 30), .str "COLOURS" "bgr", .str "SIGNS" "xyz", .int "MOST_STRETCHES" (6), .int "MOST_SIGNS" (40), .int "MOST_FIGURES" (31)]
def faL : List He.Fa := faL0 ++ faL1 ++ faL2
def looseL0 : List Str := ["RibbonError", "InvalidMachine", "InvalidStanding", "InvalidLine", "InvalidNumber", "InvalidIndex", "InvalidPlace", "InvalidColour", "InvalidWish", "InvalidSeen", "InvalidText", "GREAT", "COLOURS", "SIGNS", "MOST_STRETCHES", "MOST_SIGNS", "is_integer", "is_letter", "is_stretch", "is_machine", "signs_of", "are_signs", "length_by", "step_of", "steps_by", "place_by", "colour_by", "arcs_of", "need_machine", "need_standing"]
def looseL1 : List Str := ["need_line", "need_number", "need_index", "need_place", "need_colour", "need_all", "place_of", "colour_of", "divisor", "standing_by", "colours_by", "standing", "colours", "period", "first_rest", "first_hit", "first_by", "is_wish", "need_wish", "ever", "first_line", "first_off", "moved_back", "shared", "joined", "begins_for", "MOST_FIGURES", "number_of", "machine_text", "read_machine"]
def looseL2 : List Str := ["times_of", "hits", "standings_by", "classes_of", "strikes_by", "wear", "ever_struck", "first_unstruck", "is_even", "ahead", "blind_steps", "_law_spool", "_law_unwind", "_law_pick", "_law_small", "_law_great", "_law_more"]
def looseL : List Str := looseL0 ++ looseL1 ++ looseL2
abbrev RR : PySem.W.OpenRow := PySem.W.OpenLaw.row PySem.Challenge.rw_stampribbon_k14_known_ribbons_by_hand
abbrev hk : PySem.W.Hook := He.hookD 4 faL fnL
def ob (s : PySem.W.SharedT) : He.AlD := He.obsDG 4 faL fnL (HandSHeadRun.getT s)
theorem ob_eq (s : PySem.W.SharedT) : ob s = hk.obs s.abs := He.obsDG_eq (HandSHeadRun.getT_eq s)
theorem run_ (w : World) : HandSHeadRun.RunEq RR (PySem.W.view RR.prog [86]) hk ob 20000 looseL w := by
  intro os
  kernel_rfl
/-! ### each def keeps its promise -/
def cstL : List (Str × Ev.P) := [("GREAT", .int GRT), ("COLOURS", .str "bgr"), ("SIGNS", .str "xyz"), ("MOST_STRETCHES", .int 6), ("MOST_SIGNS", .int 40), ("MOST_FIGURES", .int 31)]
def excL : List Str := []
theorem c_is_integer : (cmp 60).ss ⟨["value", "low", "high"], defScope (top 18), [], cstL, [], excL, fun _ => true⟩ (defBody (top 18)) = some b_is_integer := by kernel_rfl
theorem c_is_letter : (cmp 60).ss ⟨["value", "letters"], defScope (top 19), [], cstL, [], excL, fun _ => true⟩ (defBody (top 19)) = some b_is_letter := by kernel_rfl
theorem c_is_stretch : (cmp 60).ss ⟨["value"], defScope (top 20), [("is_integer", 3, F_is_integer), ("is_letter", 2, F_is_letter)], cstL, [], excL, fun _ => true⟩ (defBody (top 20)) = some b_is_stretch := by kernel_rfl
theorem c_is_machine : (cmp 60).ss ⟨["value", "ribbon", "steps", "step", "stretch"], defScope (top 21), [("is_integer", 3, F_is_integer), ("is_stretch", 1, F_is_stretch)], cstL, [], excL, fun _ => true⟩ (defBody (top 21)) = some b_is_machine := by kernel_rfl
theorem c_signs_of : (cmp 60).ss ⟨["machine"], defScope (top 22), [], cstL, [], excL, fun _ => true⟩ (defBody (top 22)) = some b_signs_of := by kernel_rfl
theorem c_are_signs : (cmp 60).ss ⟨["machine", "value", "most", "sign"], defScope (top 23), [("signs_of", 1, F_signs_of)], cstL, [], excL, fun _ => true⟩ (defBody (top 23)) = some b_are_signs := by kernel_rfl
theorem c_length_by : (cmp 60).ss ⟨["machine", "colour", "size"], defScope (top 24), [], cstL, [], excL, fun _ => true⟩ (defBody (top 24)) = some b_length_by := by kernel_rfl
theorem c_step_of : (cmp 60).ss ⟨["machine", "sign", "name", "step"], defScope (top 25), [], cstL, [], excL, fun _ => true⟩ (defBody (top 25)) = some b_step_of := by kernel_rfl
theorem c_steps_by : (cmp 60).ss ⟨["machine", "signs", "sign"], defScope (top 26), [("step_of", 2, F_step_of)], cstL, [], excL, fun _ => true⟩ (defBody (top 26)) = some b_steps_by := by kernel_rfl
theorem c_place_by : (cmp 60).ss ⟨["machine", "standing", "length"], defScope (top 27), [("length_by", 1, F_length_by)], cstL, [], excL, fun _ => true⟩ (defBody (top 27)) = some b_place_by := by kernel_rfl
theorem c_colour_by : (cmp 60).ss ⟨["machine", "standing", "left", "found", "colour", "size"], defScope (top 28), [("place_by", 2, F_place_by)], cstL, [], excL, fun _ => true⟩ (defBody (top 28)) = some b_colour_by := by kernel_rfl
theorem c_arcs_of : (cmp 60).ss ⟨["machine", "colour", "begins", "rows", "forward", "ribbon", "ring", "at", "begin", "size", "other"], defScope (top 29), [("length_by", 1, F_length_by)], cstL, [], excL, fun _ => true⟩ (defBody (top 29)) = some b_arcs_of := by kernel_rfl
theorem c_need_machine : (cmp 60).ss ⟨["value"], defScope (top 30), [("is_machine", 1, F_is_machine)], cstL, [], excL, fun _ => true⟩ (defBody (top 30)) = some b_need_machine := by kernel_rfl
theorem c_need_standing : (cmp 60).ss ⟨["machine", "value"], defScope (top 31), [("is_integer", 3, F_is_integer), ("length_by", 1, F_length_by)], cstL, [], excL, fun _ => true⟩ (defBody (top 31)) = some b_need_standing := by kernel_rfl
theorem c_need_line : (cmp 60).ss ⟨["machine", "value"], defScope (top 32), [("are_signs", 3, F_are_signs)], cstL, [], excL, fun _ => true⟩ (defBody (top 32)) = some b_need_line := by kernel_rfl
theorem c_need_number : (cmp 60).ss ⟨["value"], defScope (top 33), [("is_integer", 3, F_is_integer)], cstL, [], excL, fun _ => true⟩ (defBody (top 33)) = some b_need_number := by kernel_rfl
theorem c_need_index : (cmp 60).ss ⟨["line", "value"], defScope (top 34), [("is_integer", 3, F_is_integer)], cstL, [], excL, fun _ => true⟩ (defBody (top 34)) = some b_need_index := by kernel_rfl
theorem c_need_place : (cmp 60).ss ⟨["machine", "value"], defScope (top 35), [("is_integer", 3, F_is_integer), ("length_by", 1, F_length_by)], cstL, [], excL, fun _ => true⟩ (defBody (top 35)) = some b_need_place := by kernel_rfl
theorem c_need_colour : (cmp 60).ss ⟨["value"], defScope (top 36), [("is_letter", 2, F_is_letter)], cstL, [], excL, fun _ => true⟩ (defBody (top 36)) = some b_need_colour := by kernel_rfl
theorem c_need_all : (cmp 60).ss ⟨["machine", "begin", "line"], defScope (top 37), [("need_line", 2, F_need_line), ("need_standing", 2, F_need_standing), ("need_machine", 1, F_need_machine)], cstL, [], excL, fun _ => true⟩ (defBody (top 37)) = some b_need_all := by kernel_rfl
theorem c_place_of : (cmp 60).ss ⟨["machine", "standing"], defScope (top 38), [("place_by", 2, F_place_by), ("need_standing", 2, F_need_standing), ("need_machine", 1, F_need_machine)], cstL, [], excL, fun _ => true⟩ (defBody (top 38)) = some b_place_of := by kernel_rfl
theorem c_colour_of : (cmp 60).ss ⟨["machine", "standing"], defScope (top 39), [("colour_by", 2, F_colour_by), ("need_standing", 2, F_need_standing), ("need_machine", 1, F_need_machine)], cstL, [], excL, fun _ => true⟩ (defBody (top 39)) = some b_colour_of := by kernel_rfl
theorem c_divisor : (cmp 60).ss ⟨["one", "other"], defScope (top 41), [], cstL, [], excL, fun _ => true⟩ (defBody (top 41)) = some b_divisor := by kernel_rfl
theorem c_standing_by : (cmp 60).ss ⟨["machine", "begin", "line", "number", "index", "moved"], defScope (top 42), [("length_by", 1, F_length_by), ("steps_by", 2, F_steps_by)], cstL, [], excL, fun _ => true⟩ (defBody (top 42)) = some b_standing_by := by kernel_rfl
theorem c_colours_by : (cmp 60).ss ⟨["machine", "begin", "line", "number", "found", "at"], defScope (top 43), [("colour_by", 2, F_colour_by), ("standing_by", 5, F_standing_by)], cstL, [], excL, fun _ => true⟩ (defBody (top 43)) = some b_colours_by := by kernel_rfl
theorem c_standing : (cmp 60).ss ⟨["machine", "begin", "line", "number", "index"], defScope (top 44), [("standing_by", 5, F_standing_by), ("need_index", 2, F_need_index), ("need_number", 1, F_need_number), ("need_all", 3, F_need_all)], cstL, [], excL, fun _ => true⟩ (defBody (top 44)) = some b_standing := by kernel_rfl
theorem c_colours : (cmp 60).ss ⟨["machine", "begin", "line", "number"], defScope (top 45), [("colours_by", 4, F_colours_by), ("need_number", 1, F_need_number), ("need_all", 3, F_need_all)], cstL, [], excL, fun _ => true⟩ (defBody (top 45)) = some b_colours := by kernel_rfl
theorem c_period : (cmp 60).ss ⟨["machine", "line", "ring"], defScope (top 46), [("divisor", 2, F_divisor), ("steps_by", 2, F_steps_by), ("length_by", 1, F_length_by), ("need_line", 2, F_need_line), ("need_machine", 1, F_need_machine)], cstL, [], excL, fun _ => true⟩ (defBody (top 46)) = some b_period := by kernel_rfl
theorem c_first_rest (F : Fn) : (cmp 60).ss ⟨["factor", "ring", "low", "high", "many"], defScope (top 48), ("first_rest", 4, F) :: [], cstL, [], excL, fun _ => true⟩ (defBody (top 48)) = some (b_first_rest F) := by kernel_rfl
theorem c_first_hit : (cmp 60).ss ⟨["begin", "step", "ring", "arc", "low"], defScope (top 49), [("first_rest", 4, F_first_rest)], cstL, [], excL, fun _ => true⟩ (defBody (top 49)) = some b_first_hit := by kernel_rfl
theorem c_first_by : (cmp 60).ss ⟨["machine", "begin", "line", "index", "colour", "here", "found", "ring", "step", "arc", "number"], defScope (top 50), [("arcs_of", 2, F_arcs_of), ("first_hit", 4, F_first_hit), ("standing_by", 5, F_standing_by), ("steps_by", 2, F_steps_by), ("length_by", 1, F_length_by)], cstL, [], excL, fun _ => true⟩ (defBody (top 50)) = some b_first_by := by kernel_rfl
theorem c_is_wish : (cmp 60).ss ⟨["line", "value", "letters", "letter"], defScope (top 51), [], cstL, [], excL, fun _ => true⟩ (defBody (top 51)) = some b_is_wish := by kernel_rfl
theorem c_need_wish : (cmp 60).ss ⟨["line", "value"], defScope (top 52), [("is_wish", 3, F_is_wish)], cstL, [], excL, fun _ => true⟩ (defBody (top 52)) = some b_need_wish := by kernel_rfl
theorem c_ever : (cmp 60).ss ⟨["machine", "begin", "line", "index", "found", "colour"], defScope (top 53), [("first_by", 5, F_first_by), ("need_index", 2, F_need_index), ("need_all", 3, F_need_all)], cstL, [], excL, fun _ => true⟩ (defBody (top 53)) = some b_ever := by kernel_rfl
theorem c_first_line : (cmp 60).ss ⟨["machine", "begin", "line", "index", "colour"], defScope (top 54), [("first_by", 5, F_first_by), ("need_colour", 1, F_need_colour), ("need_index", 2, F_need_index), ("need_all", 3, F_need_all)], cstL, [], excL, fun _ => true⟩ (defBody (top 54)) = some b_first_line := by kernel_rfl
theorem c_first_off : (cmp 60).ss ⟨["machine", "begin", "line", "wish", "best", "index", "colour", "number"], defScope (top 55), [("first_by", 5, F_first_by), ("need_wish", 2, F_need_wish), ("need_all", 3, F_need_all)], cstL, [], excL, fun _ => true⟩ (defBody (top 55)) = some b_first_off := by kernel_rfl
theorem c_moved_back : (cmp 60).ss ⟨["arcs", "many", "ring", "found", "low", "high", "begin", "end"], defScope (top 57), [], cstL, ["found"], excL, fun _ => true⟩ (defBody (top 57)) = some b_moved_back := by kernel_rfl
theorem c_shared : (cmp 60).ss ⟨["ones", "others", "found", "low", "high", "least", "greatest"], defScope (top 58), [], cstL, ["found"], excL, fun _ => true⟩ (defBody (top 58)) = some b_shared := by kernel_rfl
theorem c_joined : (cmp 60).ss ⟨["arcs", "found", "low", "high"], defScope (top 59), [], cstL, ["found"], excL, fun _ => true⟩ (defBody (top 59)) = some b_joined := by kernel_rfl
theorem c_begins_for : (cmp 60).ss ⟨["machine", "line", "seen", "ring", "found", "index", "colour", "arcs"], defScope (top 60), [("joined", 1, F_joined), ("shared", 2, F_shared), ("moved_back", 3, F_moved_back), ("steps_by", 2, F_steps_by), ("arcs_of", 2, F_arcs_of), ("length_by", 1, F_length_by), ("is_wish", 3, F_is_wish), ("need_line", 2, F_need_line), ("need_machine", 1, F_need_machine)], cstL, [], excL, fun _ => true⟩ (defBody (top 60)) = some b_begins_for := by kernel_rfl
theorem c_number_of : (cmp 60).ss ⟨["word", "sign"], defScope (top 63), [], cstL, [], excL, fun _ => true⟩ (defBody (top 63)) = some b_number_of := by kernel_rfl
theorem c_machine_text : (cmp 60).ss ⟨["machine", "ribbon", "colour", "size", "step"], defScope (top 64), [("need_machine", 1, F_need_machine)], cstL, [], excL, fun _ => true⟩ (defBody (top 64)) = some b_machine_text := by kernel_rfl
theorem c_read_machine : (cmp 60).ss ⟨["value", "parts", "found", "ribbon", "word"], defScope (top 65), [("is_machine", 1, F_is_machine), ("number_of", 1, F_number_of)], cstL, [], excL, fun _ => true⟩ (defBody (top 65)) = some b_read_machine := by kernel_rfl
theorem c_times_of : (cmp 60).ss ⟨["factor", "rest", "ring", "one", "other", "mine", "yours", "many"], defScope (top 67), [], cstL, [], excL, fun _ => true⟩ (defBody (top 67)) = some b_times_of := by kernel_rfl
theorem c_hits : (cmp 60).ss ⟨["begin", "step", "ring", "goal", "number", "part", "turn", "first"], defScope (top 68), [("times_of", 3, F_times_of), ("divisor", 2, F_divisor)], cstL, [], excL, fun _ => true⟩ (defBody (top 68)) = some b_hits := by kernel_rfl
theorem c_standings_by : (cmp 60).ss ⟨["machine", "begin", "line", "index"], defScope (top 69), [("standing_by", 5, F_standing_by)], cstL, [], excL, fun _ => true⟩ (defBody (top 69)) = some b_standings_by := by kernel_rfl
theorem c_classes_of : (cmp 60).ss ⟨["machine", "begin", "line", "ring", "part", "here"], defScope (top 70), [("standings_by", 3, F_standings_by), ("divisor", 2, F_divisor), ("steps_by", 2, F_steps_by), ("length_by", 1, F_length_by)], cstL, [], excL, fun _ => true⟩ (defBody (top 70)) = some b_classes_of := by kernel_rfl
theorem c_strikes_by : (cmp 60).ss ⟨["machine", "begin", "line", "place", "part", "rests"], defScope (top 71), [("length_by", 1, F_length_by), ("classes_of", 3, F_classes_of)], cstL, [], excL, fun _ => true⟩ (defBody (top 71)) = some b_strikes_by := by kernel_rfl
theorem c_wear : (cmp 60).ss ⟨["machine", "begin", "line", "number", "place", "found", "here", "ring", "step", "goal"], defScope (top 72), [("standings_by", 3, F_standings_by), ("hits", 5, F_hits), ("steps_by", 2, F_steps_by), ("length_by", 1, F_length_by), ("need_place", 2, F_need_place), ("need_number", 1, F_need_number), ("need_all", 3, F_need_all)], cstL, [], excL, fun _ => true⟩ (defBody (top 72)) = some b_wear := by kernel_rfl
theorem c_ever_struck : (cmp 60).ss ⟨["machine", "begin", "line", "place"], defScope (top 73), [("strikes_by", 4, F_strikes_by), ("need_place", 2, F_need_place), ("need_all", 3, F_need_all)], cstL, [], excL, fun _ => true⟩ (defBody (top 73)) = some b_ever_struck := by kernel_rfl
theorem c_first_unstruck : (cmp 60).ss ⟨["machine", "begin", "line", "place"], defScope (top 74), [("length_by", 1, F_length_by), ("strikes_by", 4, F_strikes_by), ("need_all", 3, F_need_all)], cstL, [], excL, fun _ => true⟩ (defBody (top 74)) = some b_first_unstruck := by kernel_rfl
theorem c_is_even : (cmp 60).ss ⟨["machine", "begin", "line", "part", "wide", "found", "place"], defScope (top 75), [("strikes_by", 4, F_strikes_by), ("length_by", 1, F_length_by), ("classes_of", 3, F_classes_of), ("need_all", 3, F_need_all)], cstL, [], excL, fun _ => true⟩ (defBody (top 75)) = some b_is_even := by kernel_rfl
theorem c_ahead : (cmp 60).ss ⟨["machine", "standing", "colour", "found", "ring", "arcs", "low", "high"], defScope (top 77), [("arcs_of", 2, F_arcs_of), ("length_by", 1, F_length_by)], cstL, [], excL, fun _ => true⟩ (defBody (top 77)) = some b_ahead := by kernel_rfl
theorem c_blind_steps : (cmp 60).ss ⟨["machine", "begin", "line", "wish", "found", "here", "sign", "colour", "many"], defScope (top 78), [("step_of", 2, F_step_of), ("length_by", 1, F_length_by), ("ahead", 3, F_ahead), ("need_wish", 2, F_need_wish), ("need_all", 3, F_need_all)], cstL, [], excL, fun _ => true⟩ (defBody (top 78)) = some b_blind_steps := by kernel_rfl
theorem c__law_spool : (cmp 60).ss ⟨["script", "k", "cell"], defScope (top 80), [], cstL, [], excL, fun _ => true⟩ (defBody (top 80)) = some b__law_spool := by kernel_rfl
theorem c__law_unwind : (cmp 60).ss ⟨["spool", "most", "wide", "part"], defScope (top 81), [], cstL, [], excL, fun _ => true⟩ (defBody (top 81)) = some b__law_unwind := by kernel_rfl
theorem c__law_pick : (cmp 60).ss ⟨["spool", "things"], defScope (top 82), [("_law_unwind", 2, F__law_unwind)], cstL, [], excL, fun _ => true⟩ (defBody (top 82)) = some b__law_pick := by kernel_rfl
theorem c__law_small : (cmp 60).ss ⟨["found", "one", "two", "at", "place"], defScope (top 83), [("read_machine", 1, F_read_machine), ("machine_text", 1, F_machine_text), ("blind_steps", 4, F_blind_steps), ("begins_for", 3, F_begins_for), ("is_even", 3, F_is_even), ("ever_struck", 4, F_ever_struck), ("first_unstruck", 3, F_first_unstruck), ("wear", 5, F_wear), ("first_off", 4, F_first_off), ("first_line", 5, F_first_line), ("ever", 4, F_ever), ("period", 2, F_period), ("colours", 4, F_colours), ("standing", 5, F_standing), ("place_of", 2, F_place_of), ("colour_of", 2, F_colour_of)], cstL, ["found"], excL, fun _ => true⟩ (defBody (top 83)) = some b__law_small := by kernel_rfl
theorem c__law_more : (cmp 60).ss ⟨["many", "turn", "here", "more", "rest", "step"], defScope (top 85), [], cstL, [], excL, fun _ => true⟩ (defBody (top 85)) = some b__law_more := by kernel_rfl
theorem c__law_great : (cmp 60).ss ⟨["many", "machine", "found"], defScope (top 84), [("first_line", 5, F_first_line), ("_law_more", 1, F__law_more), ("ever", 4, F_ever), ("blind_steps", 4, F_blind_steps), ("begins_for", 3, F_begins_for), ("wear", 5, F_wear), ("period", 2, F_period), ("first_off", 4, F_first_off)], cstL, ["found"], excL, fun _ => true⟩ (defBody (top 84)) = some b__law_great := by kernel_rfl
theorem c_law : (cmp 60).ss ⟨["script", "k", "spool", "many"], defScope (top 86), [("_law_small", 0, F__law_small), ("_law_great", 1, F__law_great), ("_law_unwind", 2, F__law_unwind), ("_law_pick", 2, F__law_pick), ("_law_spool", 2, F__law_spool)], cstL, ["spool"], excL, fun _ => true⟩ (defBody (top 86)) = some b_law := by kernel_rfl
structure Hd (w : World) (K : PySem.W.Frag) (mg : Str → Option Value) : Prop where
  says : He.SaysD faL fnL K
  gl : GlOk K mg cstL excL
  glo : ∀ x, (He.Fa.glo x).ok K = true → mg x = some (.ref (He.ga K x))
section
variable {w : World} {K : PySem.W.Frag} {mg : Str → Option Value} (h : Hd w K mg) (base : Heap)
include h
theorem g_is_integer : FnG (PySem.Challenge.rw_stampribbon_k14_known_ribbons_by_hand).prog w K mg base 1 "is_integer" 3 F_is_integer := by
  obtain ⟨fd, F⟩ := h.says.def_ 0 (d := dd "is_integer" 18) rfl
  exact fn_mk (N := ["value", "low", "high"]) (ps := ["value", "low", "high"]) (k := 0) h.gl F (h.glo "is_integer" (h.says.fact 0 (f := .glo "is_integer") rfl)) (by decide +kernel) (fun _ _ _ _ _ _ us hl => match us, hl with | [_, _, _], _ => rfl) fns_nil c_is_integer
theorem g_is_letter : FnG (PySem.Challenge.rw_stampribbon_k14_known_ribbons_by_hand).prog w K mg base 1 "is_letter" 2 F_is_letter := by
  obtain ⟨fd, F⟩ := h.says.def_ 1 (d := dd "is_letter" 19) rfl
  exact fn_mk (N := ["value", "letters"]) (ps := ["value", "letters"]) (k := 0) h.gl F (h.glo "is_letter" (h.says.fact 1 (f := .glo "is_letter") rfl)) (by decide +kernel) (fun _ _ _ _ _ _ us hl => match us, hl with | [_, _], _ => rfl) fns_nil c_is_letter
theorem g_is_stretch : FnG (PySem.Challenge.rw_stampribbon_k14_known_ribbons_by_hand).prog w K mg base 2 "is_stretch" 1 F_is_stretch := by
  obtain ⟨fd, F⟩ := h.says.def_ 2 (d := dd "is_stretch" 20) rfl
  exact fn_mk (N := ["value"]) (ps := ["value"]) (k := 1) h.gl F (h.glo "is_stretch" (h.says.fact 2 (f := .glo "is_stretch") rfl)) (by decide +kernel) (fun _ _ _ _ _ _ us hl => match us, hl with | [_], _ => rfl) (fns_cons (g_is_integer h base) (fns_cons (g_is_letter h base) fns_nil (by decide)) (by decide)) c_is_stretch
theorem g_is_machine : FnG (PySem.Challenge.rw_stampribbon_k14_known_ribbons_by_hand).prog w K mg base 3 "is_machine" 1 F_is_machine := by
  obtain ⟨fd, F⟩ := h.says.def_ 3 (d := dd "is_machine" 21) rfl
  exact fn_mk (N := ["value", "ribbon", "steps", "step", "stretch"]) (ps := ["value"]) (k := 2) h.gl F (h.glo "is_machine" (h.says.fact 3 (f := .glo "is_machine") rfl)) (by decide +kernel) (fun _ _ _ _ _ _ us hl => match us, hl with | [_], _ => rfl) (fns_cons (g_is_integer h base) (fns_cons (g_is_stretch h base) fns_nil (by decide)) (by decide)) c_is_machine
theorem g_signs_of : FnG (PySem.Challenge.rw_stampribbon_k14_known_ribbons_by_hand).prog w K mg base 1 "signs_of" 1 F_signs_of := by
  obtain ⟨fd, F⟩ := h.says.def_ 4 (d := dd "signs_of" 22) rfl
  exact fn_mk (N := ["machine"]) (ps := ["machine"]) (k := 0) h.gl F (h.glo "signs_of" (h.says.fact 4 (f := .glo "signs_of") rfl)) (by decide +kernel) (fun _ _ _ _ _ _ us hl => match us, hl with | [_], _ => rfl) fns_nil c_signs_of
theorem g_are_signs : FnG (PySem.Challenge.rw_stampribbon_k14_known_ribbons_by_hand).prog w K mg base 2 "are_signs" 3 F_are_signs := by
  obtain ⟨fd, F⟩ := h.says.def_ 5 (d := dd "are_signs" 23) rfl
  exact fn_mk (N := ["machine", "value", "most", "sign"]) (ps := ["machine", "value", "most"]) (k := 1) h.gl F (h.glo "are_signs" (h.says.fact 5 (f := .glo "are_signs") rfl)) (by decide +kernel) (fun _ _ _ _ _ _ us hl => match us, hl with | [_, _, _], _ => rfl) (fns_cons (g_signs_of h base) fns_nil (by decide)) c_are_signs
theorem g_length_by : FnG (PySem.Challenge.rw_stampribbon_k14_known_ribbons_by_hand).prog w K mg base 1 "length_by" 1 F_length_by := by
  obtain ⟨fd, F⟩ := h.says.def_ 6 (d := dd "length_by" 24) rfl
  exact fn_mk (N := ["machine", "colour", "size"]) (ps := ["machine"]) (k := 0) h.gl F (h.glo "length_by" (h.says.fact 6 (f := .glo "length_by") rfl)) (by decide +kernel) (fun _ _ _ _ _ _ us hl => match us, hl with | [_], _ => rfl) fns_nil c_length_by
theorem g_step_of : FnG (PySem.Challenge.rw_stampribbon_k14_known_ribbons_by_hand).prog w K mg base 1 "step_of" 2 F_step_of := by
  obtain ⟨fd, F⟩ := h.says.def_ 7 (d := dd "step_of" 25) rfl
  exact fn_mk (N := ["machine", "sign", "name", "step"]) (ps := ["machine", "sign"]) (k := 0) h.gl F (h.glo "step_of" (h.says.fact 7 (f := .glo "step_of") rfl)) (by decide +kernel) (fun _ _ _ _ _ _ us hl => match us, hl with | [_, _], _ => rfl) fns_nil c_step_of
theorem g_steps_by : FnG (PySem.Challenge.rw_stampribbon_k14_known_ribbons_by_hand).prog w K mg base 2 "steps_by" 2 F_steps_by := by
  obtain ⟨fd, F⟩ := h.says.def_ 8 (d := dd "steps_by" 26) rfl
  exact fn_mk (N := ["machine", "signs", "sign"]) (ps := ["machine", "signs"]) (k := 1) h.gl F (h.glo "steps_by" (h.says.fact 8 (f := .glo "steps_by") rfl)) (by decide +kernel) (fun _ _ _ _ _ _ us hl => match us, hl with | [_, _], _ => rfl) (fns_cons (g_step_of h base) fns_nil (by decide)) c_steps_by
theorem g_place_by : FnG (PySem.Challenge.rw_stampribbon_k14_known_ribbons_by_hand).prog w K mg base 2 "place_by" 2 F_place_by := by
  obtain ⟨fd, F⟩ := h.says.def_ 9 (d := dd "place_by" 27) rfl
  exact fn_mk (N := ["machine", "standing", "length"]) (ps := ["machine", "standing"]) (k := 1) h.gl F (h.glo "place_by" (h.says.fact 9 (f := .glo "place_by") rfl)) (by decide +kernel) (fun _ _ _ _ _ _ us hl => match us, hl with | [_, _], _ => rfl) (fns_cons (g_length_by h base) fns_nil (by decide)) c_place_by
theorem g_colour_by : FnG (PySem.Challenge.rw_stampribbon_k14_known_ribbons_by_hand).prog w K mg base 3 "colour_by" 2 F_colour_by := by
  obtain ⟨fd, F⟩ := h.says.def_ 10 (d := dd "colour_by" 28) rfl
  exact fn_mk (N := ["machine", "standing", "left", "found", "colour", "size"]) (ps := ["machine", "standing"]) (k := 2) h.gl F (h.glo "colour_by" (h.says.fact 10 (f := .glo "colour_by") rfl)) (by decide +kernel) (fun _ _ _ _ _ _ us hl => match us, hl with | [_, _], _ => rfl) (fns_cons (g_place_by h base) fns_nil (by decide)) c_colour_by
theorem g_arcs_of : FnG (PySem.Challenge.rw_stampribbon_k14_known_ribbons_by_hand).prog w K mg base 2 "arcs_of" 2 F_arcs_of := by
  obtain ⟨fd, F⟩ := h.says.def_ 11 (d := dd "arcs_of" 29) rfl
  exact fn_mk (N := ["machine", "colour", "begins", "rows", "forward", "ribbon", "ring", "at", "begin", "size", "other"]) (ps := ["machine", "colour"]) (k := 1) h.gl F (h.glo "arcs_of" (h.says.fact 11 (f := .glo "arcs_of") rfl)) (by decide +kernel) (fun _ _ _ _ _ _ us hl => match us, hl with | [_, _], _ => rfl) (fns_cons (g_length_by h base) fns_nil (by decide)) c_arcs_of
theorem g_need_machine : FnG (PySem.Challenge.rw_stampribbon_k14_known_ribbons_by_hand).prog w K mg base 4 "need_machine" 1 F_need_machine := by
  obtain ⟨fd, F⟩ := h.says.def_ 12 (d := dd "need_machine" 30) rfl
  exact fn_mk (N := ["value"]) (ps := ["value"]) (k := 3) h.gl F (h.glo "need_machine" (h.says.fact 12 (f := .glo "need_machine") rfl)) (by decide +kernel) (fun _ _ _ _ _ _ us hl => match us, hl with | [_], _ => rfl) (fns_cons (g_is_machine h base) fns_nil (by decide)) c_need_machine
theorem g_need_standing : FnG (PySem.Challenge.rw_stampribbon_k14_known_ribbons_by_hand).prog w K mg base 2 "need_standing" 2 F_need_standing := by
  obtain ⟨fd, F⟩ := h.says.def_ 13 (d := dd "need_standing" 31) rfl
  exact fn_mk (N := ["machine", "value"]) (ps := ["machine", "value"]) (k := 1) h.gl F (h.glo "need_standing" (h.says.fact 13 (f := .glo "need_standing") rfl)) (by decide +kernel) (fun _ _ _ _ _ _ us hl => match us, hl with | [_, _], _ => rfl) (fns_cons (g_is_integer h base) (fns_cons (g_length_by h base) fns_nil (by decide)) (by decide)) c_need_standing
theorem g_need_line : FnG (PySem.Challenge.rw_stampribbon_k14_known_ribbons_by_hand).prog w K mg base 3 "need_line" 2 F_need_line := by
  obtain ⟨fd, F⟩ := h.says.def_ 14 (d := dd "need_line" 32) rfl
  exact fn_mk (N := ["machine", "value"]) (ps := ["machine", "value"]) (k := 2) h.gl F (h.glo "need_line" (h.says.fact 14 (f := .glo "need_line") rfl)) (by decide +kernel) (fun _ _ _ _ _ _ us hl => match us, hl with | [_, _], _ => rfl) (fns_cons (g_are_signs h base) fns_nil (by decide)) c_need_line
theorem g_need_number : FnG (PySem.Challenge.rw_stampribbon_k14_known_ribbons_by_hand).prog w K mg base 2 "need_number" 1 F_need_number := by
  obtain ⟨fd, F⟩ := h.says.def_ 15 (d := dd "need_number" 33) rfl
  exact fn_mk (N := ["value"]) (ps := ["value"]) (k := 1) h.gl F (h.glo "need_number" (h.says.fact 15 (f := .glo "need_number") rfl)) (by decide +kernel) (fun _ _ _ _ _ _ us hl => match us, hl with | [_], _ => rfl) (fns_cons (g_is_integer h base) fns_nil (by decide)) c_need_number
theorem g_need_index : FnG (PySem.Challenge.rw_stampribbon_k14_known_ribbons_by_hand).prog w K mg base 2 "need_index" 2 F_need_index := by
  obtain ⟨fd, F⟩ := h.says.def_ 16 (d := dd "need_index" 34) rfl
  exact fn_mk (N := ["line", "value"]) (ps := ["line", "value"]) (k := 1) h.gl F (h.glo "need_index" (h.says.fact 16 (f := .glo "need_index") rfl)) (by decide +kernel) (fun _ _ _ _ _ _ us hl => match us, hl with | [_, _], _ => rfl) (fns_cons (g_is_integer h base) fns_nil (by decide)) c_need_index
theorem g_need_place : FnG (PySem.Challenge.rw_stampribbon_k14_known_ribbons_by_hand).prog w K mg base 2 "need_place" 2 F_need_place := by
  obtain ⟨fd, F⟩ := h.says.def_ 17 (d := dd "need_place" 35) rfl
  exact fn_mk (N := ["machine", "value"]) (ps := ["machine", "value"]) (k := 1) h.gl F (h.glo "need_place" (h.says.fact 17 (f := .glo "need_place") rfl)) (by decide +kernel) (fun _ _ _ _ _ _ us hl => match us, hl with | [_, _], _ => rfl) (fns_cons (g_is_integer h base) (fns_cons (g_length_by h base) fns_nil (by decide)) (by decide)) c_need_place
theorem g_need_colour : FnG (PySem.Challenge.rw_stampribbon_k14_known_ribbons_by_hand).prog w K mg base 2 "need_colour" 1 F_need_colour := by
  obtain ⟨fd, F⟩ := h.says.def_ 18 (d := dd "need_colour" 36) rfl
  exact fn_mk (N := ["value"]) (ps := ["value"]) (k := 1) h.gl F (h.glo "need_colour" (h.says.fact 18 (f := .glo "need_colour") rfl)) (by decide +kernel) (fun _ _ _ _ _ _ us hl => match us, hl with | [_], _ => rfl) (fns_cons (g_is_letter h base) fns_nil (by decide)) c_need_colour
theorem g_need_all : FnG (PySem.Challenge.rw_stampribbon_k14_known_ribbons_by_hand).prog w K mg base 5 "need_all" 3 F_need_all := by
  obtain ⟨fd, F⟩ := h.says.def_ 19 (d := dd "need_all" 37) rfl
  exact fn_mk (N := ["machine", "begin", "line"]) (ps := ["machine", "begin", "line"]) (k := 4) h.gl F (h.glo "need_all" (h.says.fact 19 (f := .glo "need_all") rfl)) (by decide +kernel) (fun _ _ _ _ _ _ us hl => match us, hl with | [_, _, _], _ => rfl) (fns_cons (g_need_line h base) (fns_cons (g_need_standing h base) (fns_cons (g_need_machine h base) fns_nil (by decide)) (by decide)) (by decide)) c_need_all
theorem g_place_of : FnG (PySem.Challenge.rw_stampribbon_k14_known_ribbons_by_hand).prog w K mg base 5 "place_of" 2 F_place_of := by
  obtain ⟨fd, F⟩ := h.says.def_ 20 (d := dd "place_of" 38) rfl
  exact fn_mk (N := ["machine", "standing"]) (ps := ["machine", "standing"]) (k := 4) h.gl F (h.glo "place_of" (h.says.fact 20 (f := .glo "place_of") rfl)) (by decide +kernel) (fun _ _ _ _ _ _ us hl => match us, hl with | [_, _], _ => rfl) (fns_cons (g_place_by h base) (fns_cons (g_need_standing h base) (fns_cons (g_need_machine h base) fns_nil (by decide)) (by decide)) (by decide)) c_place_of
theorem g_colour_of : FnG (PySem.Challenge.rw_stampribbon_k14_known_ribbons_by_hand).prog w K mg base 5 "colour_of" 2 F_colour_of := by
  obtain ⟨fd, F⟩ := h.says.def_ 21 (d := dd "colour_of" 39) rfl
  exact fn_mk (N := ["machine", "standing"]) (ps := ["machine", "standing"]) (k := 4) h.gl F (h.glo "colour_of" (h.says.fact 21 (f := .glo "colour_of") rfl)) (by decide +kernel) (fun _ _ _ _ _ _ us hl => match us, hl with | [_, _], _ => rfl) (fns_cons (g_colour_by h base) (fns_cons (g_need_standing h base) (fns_cons (g_need_machine h base) fns_nil (by decide)) (by decide)) (by decide)) c_colour_of
theorem g_divisor : FnG (PySem.Challenge.rw_stampribbon_k14_known_ribbons_by_hand).prog w K mg base 1 "divisor" 2 F_divisor := by
  obtain ⟨fd, F⟩ := h.says.def_ 22 (d := dd "divisor" 41) rfl
  exact fn_mk (N := ["one", "other"]) (ps := ["one", "other"]) (k := 0) h.gl F (h.glo "divisor" (h.says.fact 22 (f := .glo "divisor") rfl)) (by decide +kernel) (fun _ _ _ _ _ _ us hl => match us, hl with | [_, _], _ => rfl) fns_nil c_divisor
theorem g_standing_by : FnG (PySem.Challenge.rw_stampribbon_k14_known_ribbons_by_hand).prog w K mg base 3 "standing_by" 5 F_standing_by := by
  obtain ⟨fd, F⟩ := h.says.def_ 23 (d := dd "standing_by" 42) rfl
  exact fn_mk (N := ["machine", "begin", "line", "number", "index", "moved"]) (ps := ["machine", "begin", "line", "number", "index"]) (k := 2) h.gl F (h.glo "standing_by" (h.says.fact 23 (f := .glo "standing_by") rfl)) (by decide +kernel) (fun _ _ _ _ _ _ us hl => match us, hl with | [_, _, _, _, _], _ => rfl) (fns_cons (g_length_by h base) (fns_cons (g_steps_by h base) fns_nil (by decide)) (by decide)) c_standing_by
theorem g_colours_by : FnG (PySem.Challenge.rw_stampribbon_k14_known_ribbons_by_hand).prog w K mg base 4 "colours_by" 4 F_colours_by := by
  obtain ⟨fd, F⟩ := h.says.def_ 24 (d := dd "colours_by" 43) rfl
  exact fn_mk (N := ["machine", "begin", "line", "number", "found", "at"]) (ps := ["machine", "begin", "line", "number"]) (k := 3) h.gl F (h.glo "colours_by" (h.says.fact 24 (f := .glo "colours_by") rfl)) (by decide +kernel) (fun _ _ _ _ _ _ us hl => match us, hl with | [_, _, _, _], _ => rfl) (fns_cons (g_colour_by h base) (fns_cons (g_standing_by h base) fns_nil (by decide)) (by decide)) c_colours_by
theorem g_standing : FnG (PySem.Challenge.rw_stampribbon_k14_known_ribbons_by_hand).prog w K mg base 6 "standing" 5 F_standing := by
  obtain ⟨fd, F⟩ := h.says.def_ 25 (d := dd "standing" 44) rfl
  exact fn_mk (N := ["machine", "begin", "line", "number", "index"]) (ps := ["machine", "begin", "line", "number", "index"]) (k := 5) h.gl F (h.glo "standing" (h.says.fact 25 (f := .glo "standing") rfl)) (by decide +kernel) (fun _ _ _ _ _ _ us hl => match us, hl with | [_, _, _, _, _], _ => rfl) (fns_cons (g_standing_by h base) (fns_cons (g_need_index h base) (fns_cons (g_need_number h base) (fns_cons (g_need_all h base) fns_nil (by decide)) (by decide)) (by decide)) (by decide)) c_standing
theorem g_colours : FnG (PySem.Challenge.rw_stampribbon_k14_known_ribbons_by_hand).prog w K mg base 6 "colours" 4 F_colours := by
  obtain ⟨fd, F⟩ := h.says.def_ 26 (d := dd "colours" 45) rfl
  exact fn_mk (N := ["machine", "begin", "line", "number"]) (ps := ["machine", "begin", "line", "number"]) (k := 5) h.gl F (h.glo "colours" (h.says.fact 26 (f := .glo "colours") rfl)) (by decide +kernel) (fun _ _ _ _ _ _ us hl => match us, hl with | [_, _, _, _], _ => rfl) (fns_cons (g_colours_by h base) (fns_cons (g_need_number h base) (fns_cons (g_need_all h base) fns_nil (by decide)) (by decide)) (by decide)) c_colours
theorem g_period : FnG (PySem.Challenge.rw_stampribbon_k14_known_ribbons_by_hand).prog w K mg base 5 "period" 2 F_period := by
  obtain ⟨fd, F⟩ := h.says.def_ 27 (d := dd "period" 46) rfl
  exact fn_mk (N := ["machine", "line", "ring"]) (ps := ["machine", "line"]) (k := 4) h.gl F (h.glo "period" (h.says.fact 27 (f := .glo "period") rfl)) (by decide +kernel) (fun _ _ _ _ _ _ us hl => match us, hl with | [_, _], _ => rfl) (fns_cons (g_divisor h base) (fns_cons (g_steps_by h base) (fns_cons (g_length_by h base) (fns_cons (g_need_line h base) (fns_cons (g_need_machine h base) fns_nil (by decide)) (by decide)) (by decide)) (by decide)) (by decide)) c_period
theorem g_first_rest_ : ∀ m, FnG (PySem.Challenge.rw_stampribbon_k14_known_ribbons_by_hand).prog w K mg base (0 + m + 1) "first_rest" 4 (F_first_rest_ m) := by
  obtain ⟨fd, F⟩ := h.says.def_ 28 (d := dd "first_rest" 48) rfl
  have gx := h.glo "first_rest" (h.says.fact 28 (f := .glo "first_rest") rfl)
  intro m
  induction m with
  | zero => exact fn_no (ps := ["factor", "ring", "low", "high"]) F gx (fun _ _ _ _ _ _ us hl => match us, hl with | [_, _, _, _], _ => rfl)
  | succ m ih => exact fn_mk (N := ["factor", "ring", "low", "high", "many"]) (ps := ["factor", "ring", "low", "high"]) (k := 0 + m + 1) h.gl F gx (by decide +kernel) (fun _ _ _ _ _ _ us hl => match us, hl with | [_, _, _, _], _ => rfl) (fns_cons ih fns_nil (Nat.le_refl _)) (c_first_rest _)
theorem g_first_rest : FnG (PySem.Challenge.rw_stampribbon_k14_known_ribbons_by_hand).prog w K mg base 220 "first_rest" 4 F_first_rest := (g_first_rest_ h base 219).mono (by decide)
theorem g_first_hit : FnG (PySem.Challenge.rw_stampribbon_k14_known_ribbons_by_hand).prog w K mg base 221 "first_hit" 4 F_first_hit := by
  obtain ⟨fd, F⟩ := h.says.def_ 29 (d := dd "first_hit" 49) rfl
  exact fn_mk (N := ["begin", "step", "ring", "arc", "low"]) (ps := ["begin", "step", "ring", "arc"]) (k := 220) h.gl F (h.glo "first_hit" (h.says.fact 29 (f := .glo "first_hit") rfl)) (by decide +kernel) (fun _ _ _ _ _ _ us hl => match us, hl with | [_, _, _, _], _ => rfl) (fns_cons (g_first_rest h base) fns_nil (by decide)) c_first_hit
theorem g_first_by : FnG (PySem.Challenge.rw_stampribbon_k14_known_ribbons_by_hand).prog w K mg base 222 "first_by" 5 F_first_by := by
  obtain ⟨fd, F⟩ := h.says.def_ 30 (d := dd "first_by" 50) rfl
  exact fn_mk (N := ["machine", "begin", "line", "index", "colour", "here", "found", "ring", "step", "arc", "number"]) (ps := ["machine", "begin", "line", "index", "colour"]) (k := 221) h.gl F (h.glo "first_by" (h.says.fact 30 (f := .glo "first_by") rfl)) (by decide +kernel) (fun _ _ _ _ _ _ us hl => match us, hl with | [_, _, _, _, _], _ => rfl) (fns_cons (g_arcs_of h base) (fns_cons (g_first_hit h base) (fns_cons (g_standing_by h base) (fns_cons (g_steps_by h base) (fns_cons (g_length_by h base) fns_nil (by decide)) (by decide)) (by decide)) (by decide)) (by decide)) c_first_by
theorem g_is_wish : FnG (PySem.Challenge.rw_stampribbon_k14_known_ribbons_by_hand).prog w K mg base 1 "is_wish" 3 F_is_wish := by
  obtain ⟨fd, F⟩ := h.says.def_ 31 (d := dd "is_wish" 51) rfl
  exact fn_mk (N := ["line", "value", "letters", "letter"]) (ps := ["line", "value", "letters"]) (k := 0) h.gl F (h.glo "is_wish" (h.says.fact 31 (f := .glo "is_wish") rfl)) (by decide +kernel) (fun _ _ _ _ _ _ us hl => match us, hl with | [_, _, _], _ => rfl) fns_nil c_is_wish
theorem g_need_wish : FnG (PySem.Challenge.rw_stampribbon_k14_known_ribbons_by_hand).prog w K mg base 2 "need_wish" 2 F_need_wish := by
  obtain ⟨fd, F⟩ := h.says.def_ 32 (d := dd "need_wish" 52) rfl
  exact fn_mk (N := ["line", "value"]) (ps := ["line", "value"]) (k := 1) h.gl F (h.glo "need_wish" (h.says.fact 32 (f := .glo "need_wish") rfl)) (by decide +kernel) (fun _ _ _ _ _ _ us hl => match us, hl with | [_, _], _ => rfl) (fns_cons (g_is_wish h base) fns_nil (by decide)) c_need_wish
theorem g_ever : FnG (PySem.Challenge.rw_stampribbon_k14_known_ribbons_by_hand).prog w K mg base 223 "ever" 4 F_ever := by
  obtain ⟨fd, F⟩ := h.says.def_ 33 (d := dd "ever" 53) rfl
  exact fn_mk (N := ["machine", "begin", "line", "index", "found", "colour"]) (ps := ["machine", "begin", "line", "index"]) (k := 222) h.gl F (h.glo "ever" (h.says.fact 33 (f := .glo "ever") rfl)) (by decide +kernel) (fun _ _ _ _ _ _ us hl => match us, hl with | [_, _, _, _], _ => rfl) (fns_cons (g_first_by h base) (fns_cons (g_need_index h base) (fns_cons (g_need_all h base) fns_nil (by decide)) (by decide)) (by decide)) c_ever
theorem g_first_line : FnG (PySem.Challenge.rw_stampribbon_k14_known_ribbons_by_hand).prog w K mg base 223 "first_line" 5 F_first_line := by
  obtain ⟨fd, F⟩ := h.says.def_ 34 (d := dd "first_line" 54) rfl
  exact fn_mk (N := ["machine", "begin", "line", "index", "colour"]) (ps := ["machine", "begin", "line", "index", "colour"]) (k := 222) h.gl F (h.glo "first_line" (h.says.fact 34 (f := .glo "first_line") rfl)) (by decide +kernel) (fun _ _ _ _ _ _ us hl => match us, hl with | [_, _, _, _, _], _ => rfl) (fns_cons (g_first_by h base) (fns_cons (g_need_colour h base) (fns_cons (g_need_index h base) (fns_cons (g_need_all h base) fns_nil (by decide)) (by decide)) (by decide)) (by decide)) c_first_line
theorem g_first_off : FnG (PySem.Challenge.rw_stampribbon_k14_known_ribbons_by_hand).prog w K mg base 223 "first_off" 4 F_first_off := by
  obtain ⟨fd, F⟩ := h.says.def_ 35 (d := dd "first_off" 55) rfl
  exact fn_mk (N := ["machine", "begin", "line", "wish", "best", "index", "colour", "number"]) (ps := ["machine", "begin", "line", "wish"]) (k := 222) h.gl F (h.glo "first_off" (h.says.fact 35 (f := .glo "first_off") rfl)) (by decide +kernel) (fun _ _ _ _ _ _ us hl => match us, hl with | [_, _, _, _], _ => rfl) (fns_cons (g_first_by h base) (fns_cons (g_need_wish h base) (fns_cons (g_need_all h base) fns_nil (by decide)) (by decide)) (by decide)) c_first_off
theorem g_moved_back : FnG (PySem.Challenge.rw_stampribbon_k14_known_ribbons_by_hand).prog w K mg base 1 "moved_back" 3 F_moved_back := by
  obtain ⟨fd, F⟩ := h.says.def_ 36 (d := dd "moved_back" 57) rfl
  exact fn_mk (N := ["arcs", "many", "ring", "found", "low", "high", "begin", "end"]) (ps := ["arcs", "many", "ring"]) (k := 0) h.gl F (h.glo "moved_back" (h.says.fact 36 (f := .glo "moved_back") rfl)) (by decide +kernel) (fun _ _ _ _ _ _ us hl => match us, hl with | [_, _, _], _ => rfl) fns_nil c_moved_back
theorem g_shared : FnG (PySem.Challenge.rw_stampribbon_k14_known_ribbons_by_hand).prog w K mg base 1 "shared" 2 F_shared := by
  obtain ⟨fd, F⟩ := h.says.def_ 37 (d := dd "shared" 58) rfl
  exact fn_mk (N := ["ones", "others", "found", "low", "high", "least", "greatest"]) (ps := ["ones", "others"]) (k := 0) h.gl F (h.glo "shared" (h.says.fact 37 (f := .glo "shared") rfl)) (by decide +kernel) (fun _ _ _ _ _ _ us hl => match us, hl with | [_, _], _ => rfl) fns_nil c_shared
theorem g_joined : FnG (PySem.Challenge.rw_stampribbon_k14_known_ribbons_by_hand).prog w K mg base 1 "joined" 1 F_joined := by
  obtain ⟨fd, F⟩ := h.says.def_ 38 (d := dd "joined" 59) rfl
  exact fn_mk (N := ["arcs", "found", "low", "high"]) (ps := ["arcs"]) (k := 0) h.gl F (h.glo "joined" (h.says.fact 38 (f := .glo "joined") rfl)) (by decide +kernel) (fun _ _ _ _ _ _ us hl => match us, hl with | [_], _ => rfl) fns_nil c_joined
theorem g_begins_for : FnG (PySem.Challenge.rw_stampribbon_k14_known_ribbons_by_hand).prog w K mg base 5 "begins_for" 3 F_begins_for := by
  obtain ⟨fd, F⟩ := h.says.def_ 39 (d := dd "begins_for" 60) rfl
  exact fn_mk (N := ["machine", "line", "seen", "ring", "found", "index", "colour", "arcs"]) (ps := ["machine", "line", "seen"]) (k := 4) h.gl F (h.glo "begins_for" (h.says.fact 39 (f := .glo "begins_for") rfl)) (by decide +kernel) (fun _ _ _ _ _ _ us hl => match us, hl with | [_, _, _], _ => rfl) (fns_cons (g_joined h base) (fns_cons (g_shared h base) (fns_cons (g_moved_back h base) (fns_cons (g_steps_by h base) (fns_cons (g_arcs_of h base) (fns_cons (g_length_by h base) (fns_cons (g_is_wish h base) (fns_cons (g_need_line h base) (fns_cons (g_need_machine h base) fns_nil (by decide)) (by decide)) (by decide)) (by decide)) (by decide)) (by decide)) (by decide)) (by decide)) (by decide)) c_begins_for
theorem g_number_of : FnG (PySem.Challenge.rw_stampribbon_k14_known_ribbons_by_hand).prog w K mg base 1 "number_of" 1 F_number_of := by
  obtain ⟨fd, F⟩ := h.says.def_ 40 (d := dd "number_of" 63) rfl
  exact fn_mk (N := ["word", "sign"]) (ps := ["word"]) (k := 0) h.gl F (h.glo "number_of" (h.says.fact 40 (f := .glo "number_of") rfl)) (by decide +kernel) (fun _ _ _ _ _ _ us hl => match us, hl with | [_], _ => rfl) fns_nil c_number_of
theorem g_machine_text : FnG (PySem.Challenge.rw_stampribbon_k14_known_ribbons_by_hand).prog w K mg base 5 "machine_text" 1 F_machine_text := by
  obtain ⟨fd, F⟩ := h.says.def_ 41 (d := dd "machine_text" 64) rfl
  exact fn_mk (N := ["machine", "ribbon", "colour", "size", "step"]) (ps := ["machine"]) (k := 4) h.gl F (h.glo "machine_text" (h.says.fact 41 (f := .glo "machine_text") rfl)) (by decide +kernel) (fun _ _ _ _ _ _ us hl => match us, hl with | [_], _ => rfl) (fns_cons (g_need_machine h base) fns_nil (by decide)) c_machine_text
theorem g_read_machine : FnG (PySem.Challenge.rw_stampribbon_k14_known_ribbons_by_hand).prog w K mg base 4 "read_machine" 1 F_read_machine := by
  obtain ⟨fd, F⟩ := h.says.def_ 42 (d := dd "read_machine" 65) rfl
  exact fn_mk (N := ["value", "parts", "found", "ribbon", "word"]) (ps := ["value"]) (k := 3) h.gl F (h.glo "read_machine" (h.says.fact 42 (f := .glo "read_machine") rfl)) (by decide +kernel) (fun _ _ _ _ _ _ us hl => match us, hl with | [_], _ => rfl) (fns_cons (g_is_machine h base) (fns_cons (g_number_of h base) fns_nil (by decide)) (by decide)) c_read_machine
theorem g_times_of : FnG (PySem.Challenge.rw_stampribbon_k14_known_ribbons_by_hand).prog w K mg base 1 "times_of" 3 F_times_of := by
  obtain ⟨fd, F⟩ := h.says.def_ 43 (d := dd "times_of" 67) rfl
  exact fn_mk (N := ["factor", "rest", "ring", "one", "other", "mine", "yours", "many"]) (ps := ["factor", "rest", "ring"]) (k := 0) h.gl F (h.glo "times_of" (h.says.fact 43 (f := .glo "times_of") rfl)) (by decide +kernel) (fun _ _ _ _ _ _ us hl => match us, hl with | [_, _, _], _ => rfl) fns_nil c_times_of
theorem g_hits : FnG (PySem.Challenge.rw_stampribbon_k14_known_ribbons_by_hand).prog w K mg base 2 "hits" 5 F_hits := by
  obtain ⟨fd, F⟩ := h.says.def_ 44 (d := dd "hits" 68) rfl
  exact fn_mk (N := ["begin", "step", "ring", "goal", "number", "part", "turn", "first"]) (ps := ["begin", "step", "ring", "goal", "number"]) (k := 1) h.gl F (h.glo "hits" (h.says.fact 44 (f := .glo "hits") rfl)) (by decide +kernel) (fun _ _ _ _ _ _ us hl => match us, hl with | [_, _, _, _, _], _ => rfl) (fns_cons (g_times_of h base) (fns_cons (g_divisor h base) fns_nil (by decide)) (by decide)) c_hits
theorem g_standings_by : FnG (PySem.Challenge.rw_stampribbon_k14_known_ribbons_by_hand).prog w K mg base 4 "standings_by" 3 F_standings_by := by
  obtain ⟨fd, F⟩ := h.says.def_ 45 (d := dd "standings_by" 69) rfl
  exact fn_mk (N := ["machine", "begin", "line", "index"]) (ps := ["machine", "begin", "line"]) (k := 3) h.gl F (h.glo "standings_by" (h.says.fact 45 (f := .glo "standings_by") rfl)) (by decide +kernel) (fun _ _ _ _ _ _ us hl => match us, hl with | [_, _, _], _ => rfl) (fns_cons (g_standing_by h base) fns_nil (by decide)) c_standings_by
theorem g_classes_of : FnG (PySem.Challenge.rw_stampribbon_k14_known_ribbons_by_hand).prog w K mg base 5 "classes_of" 3 F_classes_of := by
  obtain ⟨fd, F⟩ := h.says.def_ 46 (d := dd "classes_of" 70) rfl
  exact fn_mk (N := ["machine", "begin", "line", "ring", "part", "here"]) (ps := ["machine", "begin", "line"]) (k := 4) h.gl F (h.glo "classes_of" (h.says.fact 46 (f := .glo "classes_of") rfl)) (by decide +kernel) (fun _ _ _ _ _ _ us hl => match us, hl with | [_, _, _], _ => rfl) (fns_cons (g_standings_by h base) (fns_cons (g_divisor h base) (fns_cons (g_steps_by h base) (fns_cons (g_length_by h base) fns_nil (by decide)) (by decide)) (by decide)) (by decide)) c_classes_of
theorem g_strikes_by : FnG (PySem.Challenge.rw_stampribbon_k14_known_ribbons_by_hand).prog w K mg base 6 "strikes_by" 4 F_strikes_by := by
  obtain ⟨fd, F⟩ := h.says.def_ 47 (d := dd "strikes_by" 71) rfl
  exact fn_mk (N := ["machine", "begin", "line", "place", "part", "rests"]) (ps := ["machine", "begin", "line", "place"]) (k := 5) h.gl F (h.glo "strikes_by" (h.says.fact 47 (f := .glo "strikes_by") rfl)) (by decide +kernel) (fun _ _ _ _ _ _ us hl => match us, hl with | [_, _, _, _], _ => rfl) (fns_cons (g_length_by h base) (fns_cons (g_classes_of h base) fns_nil (by decide)) (by decide)) c_strikes_by
theorem g_wear : FnG (PySem.Challenge.rw_stampribbon_k14_known_ribbons_by_hand).prog w K mg base 6 "wear" 5 F_wear := by
  obtain ⟨fd, F⟩ := h.says.def_ 48 (d := dd "wear" 72) rfl
  exact fn_mk (N := ["machine", "begin", "line", "number", "place", "found", "here", "ring", "step", "goal"]) (ps := ["machine", "begin", "line", "number", "place"]) (k := 5) h.gl F (h.glo "wear" (h.says.fact 48 (f := .glo "wear") rfl)) (by decide +kernel) (fun _ _ _ _ _ _ us hl => match us, hl with | [_, _, _, _, _], _ => rfl) (fns_cons (g_standings_by h base) (fns_cons (g_hits h base) (fns_cons (g_steps_by h base) (fns_cons (g_length_by h base) (fns_cons (g_need_place h base) (fns_cons (g_need_number h base) (fns_cons (g_need_all h base) fns_nil (by decide)) (by decide)) (by decide)) (by decide)) (by decide)) (by decide)) (by decide)) c_wear
theorem g_ever_struck : FnG (PySem.Challenge.rw_stampribbon_k14_known_ribbons_by_hand).prog w K mg base 7 "ever_struck" 4 F_ever_struck := by
  obtain ⟨fd, F⟩ := h.says.def_ 49 (d := dd "ever_struck" 73) rfl
  exact fn_mk (N := ["machine", "begin", "line", "place"]) (ps := ["machine", "begin", "line", "place"]) (k := 6) h.gl F (h.glo "ever_struck" (h.says.fact 49 (f := .glo "ever_struck") rfl)) (by decide +kernel) (fun _ _ _ _ _ _ us hl => match us, hl with | [_, _, _, _], _ => rfl) (fns_cons (g_strikes_by h base) (fns_cons (g_need_place h base) (fns_cons (g_need_all h base) fns_nil (by decide)) (by decide)) (by decide)) c_ever_struck
theorem g_first_unstruck : FnG (PySem.Challenge.rw_stampribbon_k14_known_ribbons_by_hand).prog w K mg base 7 "first_unstruck" 3 F_first_unstruck := by
  obtain ⟨fd, F⟩ := h.says.def_ 50 (d := dd "first_unstruck" 74) rfl
  exact fn_mk (N := ["machine", "begin", "line", "place"]) (ps := ["machine", "begin", "line"]) (k := 6) h.gl F (h.glo "first_unstruck" (h.says.fact 50 (f := .glo "first_unstruck") rfl)) (by decide +kernel) (fun _ _ _ _ _ _ us hl => match us, hl with | [_, _, _], _ => rfl) (fns_cons (g_length_by h base) (fns_cons (g_strikes_by h base) (fns_cons (g_need_all h base) fns_nil (by decide)) (by decide)) (by decide)) c_first_unstruck
theorem g_is_even : FnG (PySem.Challenge.rw_stampribbon_k14_known_ribbons_by_hand).prog w K mg base 7 "is_even" 3 F_is_even := by
  obtain ⟨fd, F⟩ := h.says.def_ 51 (d := dd "is_even" 75) rfl
  exact fn_mk (N := ["machine", "begin", "line", "part", "wide", "found", "place"]) (ps := ["machine", "begin", "line"]) (k := 6) h.gl F (h.glo "is_even" (h.says.fact 51 (f := .glo "is_even") rfl)) (by decide +kernel) (fun _ _ _ _ _ _ us hl => match us, hl with | [_, _, _], _ => rfl) (fns_cons (g_strikes_by h base) (fns_cons (g_length_by h base) (fns_cons (g_classes_of h base) (fns_cons (g_need_all h base) fns_nil (by decide)) (by decide)) (by decide)) (by decide)) c_is_even
theorem g_ahead : FnG (PySem.Challenge.rw_stampribbon_k14_known_ribbons_by_hand).prog w K mg base 3 "ahead" 3 F_ahead := by
  obtain ⟨fd, F⟩ := h.says.def_ 52 (d := dd "ahead" 77) rfl
  exact fn_mk (N := ["machine", "standing", "colour", "found", "ring", "arcs", "low", "high"]) (ps := ["machine", "standing", "colour"]) (k := 2) h.gl F (h.glo "ahead" (h.says.fact 52 (f := .glo "ahead") rfl)) (by decide +kernel) (fun _ _ _ _ _ _ us hl => match us, hl with | [_, _, _], _ => rfl) (fns_cons (g_arcs_of h base) (fns_cons (g_length_by h base) fns_nil (by decide)) (by decide)) c_ahead
theorem g_blind_steps : FnG (PySem.Challenge.rw_stampribbon_k14_known_ribbons_by_hand).prog w K mg base 6 "blind_steps" 4 F_blind_steps := by
  obtain ⟨fd, F⟩ := h.says.def_ 53 (d := dd "blind_steps" 78) rfl
  exact fn_mk (N := ["machine", "begin", "line", "wish", "found", "here", "sign", "colour", "many"]) (ps := ["machine", "begin", "line", "wish"]) (k := 5) h.gl F (h.glo "blind_steps" (h.says.fact 53 (f := .glo "blind_steps") rfl)) (by decide +kernel) (fun _ _ _ _ _ _ us hl => match us, hl with | [_, _, _, _], _ => rfl) (fns_cons (g_step_of h base) (fns_cons (g_length_by h base) (fns_cons (g_ahead h base) (fns_cons (g_need_wish h base) (fns_cons (g_need_all h base) fns_nil (by decide)) (by decide)) (by decide)) (by decide)) (by decide)) c_blind_steps
theorem g__law_spool : FnG (PySem.Challenge.rw_stampribbon_k14_known_ribbons_by_hand).prog w K mg base 1 "_law_spool" 2 F__law_spool := by
  obtain ⟨fd, F⟩ := h.says.def_ 54 (d := dd "_law_spool" 80) rfl
  exact fn_mk (N := ["script", "k", "cell"]) (ps := ["script", "k"]) (k := 0) h.gl F (h.glo "_law_spool" (h.says.fact 54 (f := .glo "_law_spool") rfl)) (by decide +kernel) (fun _ _ _ _ _ _ us hl => match us, hl with | [_, _], _ => rfl) fns_nil c__law_spool
theorem g__law_unwind : FnG (PySem.Challenge.rw_stampribbon_k14_known_ribbons_by_hand).prog w K mg base 1 "_law_unwind" 2 F__law_unwind := by
  obtain ⟨fd, F⟩ := h.says.def_ 55 (d := dd "_law_unwind" 81) rfl
  exact fn_mk (N := ["spool", "most", "wide", "part"]) (ps := ["spool", "most"]) (k := 0) h.gl F (h.glo "_law_unwind" (h.says.fact 55 (f := .glo "_law_unwind") rfl)) (by decide +kernel) (fun _ _ _ _ _ _ us hl => match us, hl with | [_, _], _ => rfl) fns_nil c__law_unwind
theorem g__law_pick : FnG (PySem.Challenge.rw_stampribbon_k14_known_ribbons_by_hand).prog w K mg base 2 "_law_pick" 2 F__law_pick := by
  obtain ⟨fd, F⟩ := h.says.def_ 56 (d := dd "_law_pick" 82) rfl
  exact fn_mk (N := ["spool", "things"]) (ps := ["spool", "things"]) (k := 1) h.gl F (h.glo "_law_pick" (h.says.fact 56 (f := .glo "_law_pick") rfl)) (by decide +kernel) (fun _ _ _ _ _ _ us hl => match us, hl with | [_, _], _ => rfl) (fns_cons (g__law_unwind h base) fns_nil (by decide)) c__law_pick
theorem g__law_small : FnG (PySem.Challenge.rw_stampribbon_k14_known_ribbons_by_hand).prog w K mg base 224 "_law_small" 0 F__law_small := by
  obtain ⟨fd, F⟩ := h.says.def_ 57 (d := dd "_law_small" 83) rfl
  exact fn_mk (N := ["found", "one", "two", "at", "place"]) (ps := []) (k := 223) h.gl F (h.glo "_law_small" (h.says.fact 57 (f := .glo "_law_small") rfl)) (by decide +kernel) (fun _ _ _ _ _ _ us hl => match us, hl with | [], _ => rfl) (fns_cons (g_read_machine h base) (fns_cons (g_machine_text h base) (fns_cons (g_blind_steps h base) (fns_cons (g_begins_for h base) (fns_cons (g_is_even h base) (fns_cons (g_ever_struck h base) (fns_cons (g_first_unstruck h base) (fns_cons (g_wear h base) (fns_cons (g_first_off h base) (fns_cons (g_first_line h base) (fns_cons (g_ever h base) (fns_cons (g_period h base) (fns_cons (g_colours h base) (fns_cons (g_standing h base) (fns_cons (g_place_of h base) (fns_cons (g_colour_of h base) fns_nil (by decide)) (by decide)) (by decide)) (by decide)) (by decide)) (by decide)) (by decide)) (by decide)) (by decide)) (by decide)) (by decide)) (by decide)) (by decide)) (by decide)) (by decide)) (by decide)) c__law_small
theorem g__law_more : FnG (PySem.Challenge.rw_stampribbon_k14_known_ribbons_by_hand).prog w K mg base 1 "_law_more" 1 F__law_more := by
  obtain ⟨fd, F⟩ := h.says.def_ 59 (d := dd "_law_more" 85) rfl
  exact fn_mk (N := ["many", "turn", "here", "more", "rest", "step"]) (ps := ["many"]) (k := 0) h.gl F (h.glo "_law_more" (h.says.fact 59 (f := .glo "_law_more") rfl)) (by decide +kernel) (fun _ _ _ _ _ _ us hl => match us, hl with | [_], _ => rfl) fns_nil c__law_more
theorem g__law_great : FnG (PySem.Challenge.rw_stampribbon_k14_known_ribbons_by_hand).prog w K mg base 224 "_law_great" 1 F__law_great := by
  obtain ⟨fd, F⟩ := h.says.def_ 58 (d := dd "_law_great" 84) rfl
  exact fn_mk (N := ["many", "machine", "found"]) (ps := ["many"]) (k := 223) h.gl F (h.glo "_law_great" (h.says.fact 58 (f := .glo "_law_great") rfl)) (by decide +kernel) (fun _ _ _ _ _ _ us hl => match us, hl with | [_], _ => rfl) (fns_cons (g_first_line h base) (fns_cons (g__law_more h base) (fns_cons (g_ever h base) (fns_cons (g_blind_steps h base) (fns_cons (g_begins_for h base) (fns_cons (g_wear h base) (fns_cons (g_period h base) (fns_cons (g_first_off h base) fns_nil (by decide)) (by decide)) (by decide)) (by decide)) (by decide)) (by decide)) (by decide)) (by decide)) c__law_great
theorem g_law : FnG (PySem.Challenge.rw_stampribbon_k14_known_ribbons_by_hand).prog w K mg base 225 "law" 1 F_law := by
  obtain ⟨fd, F⟩ := h.says.def_ 60 (d := dd "law" 86) rfl
  exact fn_mk (N := ["script", "k", "spool", "many"]) (ps := ["script"]) (k := 224) h.gl F (h.glo "law" (h.says.fact 60 (f := .glo "law") rfl)) (by decide +kernel) (fun _ _ _ _ _ _ us hl => match us, hl with | [_], _ => rfl) (fns_cons (g__law_small h base) (fns_cons (g__law_great h base) (fns_cons (g__law_unwind h base) (fns_cons (g__law_pick h base) (fns_cons (g__law_spool h base) fns_nil (by decide)) (by decide)) (by decide)) (by decide)) (by decide)) c_law
end
theorem hd_of {w : World} {K : PySem.W.Frag} {h : Heap} {mg : Str → Option Value} (X : K.In h) (G : h.Ns mainGlobals mg) (c : He.SaysD faL fnL K) : Hd w K mg where
  says := c
  glo := fun x q => He.glo_ok X G q
  gl := {
    cst := fun x p hm => by
      simp only [cstL, List.mem_cons, List.not_mem_nil, or_false, Prod.mk.injEq] at hm
      rcases hm with ⟨rfl, rfl⟩ | ⟨rfl, rfl⟩ | ⟨rfl, rfl⟩ | ⟨rfl, rfl⟩ | ⟨rfl, rfl⟩ | ⟨rfl, rfl⟩
      · obtain ⟨t, e⟩ := He.int_ok X G (c.fact 77 (f := .int "GREAT" (10 ^ 30)) rfl); exact cst_int e
      · obtain ⟨t, e⟩ := He.str_ok X G (c.fact 78 (f := .str "COLOURS" "bgr") rfl); exact cst_str e
      · obtain ⟨t, e⟩ := He.str_ok X G (c.fact 79 (f := .str "SIGNS" "xyz") rfl); exact cst_str e
      · obtain ⟨t, e⟩ := He.int_ok X G (c.fact 80 (f := .int "MOST_STRETCHES" (6)) rfl); exact cst_int e
      · obtain ⟨t, e⟩ := He.int_ok X G (c.fact 81 (f := .int "MOST_SIGNS" (40)) rfl); exact cst_int e
      · obtain ⟨t, e⟩ := He.int_ok X G (c.fact 82 (f := .int "MOST_FIGURES" (31)) rfl); exact cst_int e
    blt := fun x hm => by
      simp only [bltN, List.mem_cons, List.not_mem_nil, or_false] at hm
      rcases hm with rfl | rfl | rfl | rfl | rfl | rfl | rfl | rfl | rfl | rfl | rfl | rfl | rfl | rfl | rfl | rfl
      · exact He.free_ok X G (c.fact 61 (f := .free "isinstance") rfl)
      · exact He.free_ok X G (c.fact 62 (f := .free "len") rfl)
      · exact He.free_ok X G (c.fact 63 (f := .free "abs") rfl)
      · exact He.free_ok X G (c.fact 64 (f := .free "max") rfl)
      · exact He.free_ok X G (c.fact 65 (f := .free "min") rfl)
      · exact He.free_ok X G (c.fact 66 (f := .free "sum") rfl)
      · exact He.free_ok X G (c.fact 67 (f := .free "all") rfl)
      · exact He.free_ok X G (c.fact 68 (f := .free "sorted") rfl)
      · exact He.free_ok X G (c.fact 69 (f := .free "int") rfl)
      · exact He.free_ok X G (c.fact 70 (f := .free "str") rfl)
      · exact He.free_ok X G (c.fact 71 (f := .free "tuple") rfl)
      · exact He.free_ok X G (c.fact 72 (f := .free "list") rfl)
      · exact He.free_ok X G (c.fact 73 (f := .free "bool") rfl)
      · exact He.free_ok X G (c.fact 74 (f := .free "range") rfl)
      · exact He.free_ok X G (c.fact 75 (f := .free "zip") rfl)
      · exact He.free_ok X G (c.fact 76 (f := .free "enumerate") rfl)
    exc := fun x hm => by
      simp only [excL, List.mem_cons, List.not_mem_nil, or_false] at hm
  }
theorem holds_of (hl : ∀ ns : List Int, ns.length ≤ 63 → ∃ M, F_law [.p (.scr ns)] [] = .ok (.p (.bl true)) M) : PySem.Challenge.rw_stampribbon_k14_known_ribbons_by_hand.Holds := by
  w_on; o_law
  refine HandSHeadRun.head_any (r := PySem.W.OpenLaw.row PySem.Challenge.rw_stampribbon_k14_known_ribbons_by_hand) (q := PySem.W.view (PySem.W.OpenLaw.row PySem.Challenge.rw_stampribbon_k14_known_ribbons_by_hand).prog [86]) (H := hk) (ob := ob) (M := 20000) (loose := looseL) (d := HandSHeadRun.topDef (PySem.W.OpenLaw.row PySem.Challenge.rw_stampribbon_k14_known_ribbons_by_hand).prog 86) (kwd := []) ob_eq
    (by kernel_rfl) (fun s => by kernel_rfl) run_ (by kernel_rfl) (by kernel_rfl) (by kernel_rfl) (by rfl) (by first | assumption | decide +kernel) (by decide +kernel) ⟨rfl, rfl, rfl, rfl, rfl, by decide +kernel⟩ ?hw ?hc
  case hw => w_witness2
  case hc =>
    refine L2.walk_ofE (l := PySem.Challenge.rw_stampribbon_k14_known_ribbons_by_hand) (n := 63) (k := 225) (x := "script") (CX := CXA) rfl (by decide) (by kernel_rfl) ⟨rfl, by decide, by decide⟩ ?F (fun _ _ _ _ z => cxa_false z)
    intro w mg fa h Y G hmg0
    obtain ⟨K, KX, c⟩ := Y
    have hmg : mg ("law" : PySem.Str) = some (.ref fa) := by
      have e : (HandSHeadRun.topDef (PySem.W.OpenLaw.row PySem.Challenge.rw_stampribbon_k14_known_ribbons_by_hand).prog 86).name = ("law" : PySem.Str) := by kernel_rfl
      rw [← e]
      exact hmg0
    have hd := hd_of (w := w) KX G c
    obtain ⟨fd, F⟩ := c.def_ 60 (d := dd "law" 86) rfl
    have e := hmg.symm.trans (hd.glo "law" (c.fact 60 (f := .glo "law") rfl))
    cases e
    have b := FunD.bindsA (ps := ["script"]) F fun _ _ _ _ _ _ us hl => match us, hl with | [_], _ => rfl
    refine ⟨K, fd, spOf ⟨mg, K⟩ 1 F_law, KX, fun s v => b s [v] rfl, fun H a ns hl' hO hS => law_sp (hl) hl' hO hS, fun base _ _ => fn_cxa (w := w) (P := (PySem.Challenge.rw_stampribbon_k14_known_ribbons_by_hand).prog) (fn_ok (N := ["script", "k", "spool", "many"]) (ps := ["script"]) (k := 224) hd.gl F (by decide +kernel) (fns_cons (g__law_small hd base) (fns_cons (g__law_great hd base) (fns_cons (g__law_unwind hd base) (fns_cons (g__law_pick hd base) (fns_cons (g__law_spool hd base) fns_nil (by decide)) (by decide)) (by decide)) (by decide)) (by decide)) c_law)⟩
end Ev

set_option linter.all false
set_option maxRecDepth 100000
set_option maxHeartbeats 4000000
/-! Spec1: what the defs of machines do to a machine. -/
namespace Ev
open PySem
def isLet (s l : Str) : Bool := match s.cps.toList with
  | [c] => decide (c ∈ l.cps.toList)
  | _ => false
def stP (x : Str × Int) : P := .tup [.str x.1, .int x.2]
def machP (rb : List (Str × Int)) (st : List Int) : P := .tup [.tup (rb.map stP), .tup (st.map P.int)]
structure MOk (rb : List (Str × Int)) (st : List Int) : Prop where
  l1 : 1 ≤ rb.length
  l2 : rb.length ≤ 6
  c : ∀ x ∈ rb, isLet x.1 "bgr" = true ∧ 1 ≤ x.2 ∧ x.2 ≤ GRT
  s1 : st.length = 2 ∨ st.length = 3
  s2 : ∀ s ∈ st, 0 ≤ s ∧ s ≤ 9
theorem str_len {s : Str} : s.length = s.cps.toList.length := by
  show s.cps.size = _
  simp
theorem isLet_len {s l : Str} (h : isLet s l = true) : ∃ c, s = ⟨#[c]⟩ ∧ c ∈ l.cps.toList := by
  unfold isLet at h
  split at h
  · rename_i c e
    exact ⟨c, one_sign e, by simpa using h⟩
  · cases h
theorem sp_is_integer {v lo hi : Int} {M : Sto} : F_is_integer [.p (.int v), .p (.int lo), .p (.int hi)] M = .ok (.p (.bl (decide (lo ≤ v) && decide (v ≤ hi)))) M := by
  unfold F_is_integer b_is_integer
  rw [fnB3]
  by_cases h1 : lo ≤ v <;> by_cases h2 : v ≤ hi <;> simp [h1, h2]
theorem oIn_s {c : Nat} {l : Str} : oIn (.str ⟨#[c]⟩) (.str l) = some (.p (.bl (decide (c ∈ l.cps.toList)))) := rfl
theorem sp_is_letter {s l : Str} {M : Sto} (hs : isLet s l = true) : F_is_letter [.p (.str s), .p (.str l)] M = .ok (.p (.bl true)) M := by
  obtain ⟨c, rfl, hc⟩ := isLet_len hs
  unfold F_is_letter b_is_letter
  rw [fnB2]
  have e : cLen [.str (⟨#[c]⟩ : Str)] = some (.p (.int 1)) := rfl
  simp [e, oIn_s, hc]
theorem atI0 {α : Type} {a : α} {l : List α} : L2.atI (a :: l) (0 : Int) = some a := by simp [L2.atI, L2.ixN]
theorem atI1 {α : Type} {a b : α} {l : List α} : L2.atI (a :: b :: l) (1 : Int) = some b := by
  have : (1 : Int) < (l.length : Int) + 1 + 1 := by omega
  simp [L2.atI, L2.ixN, this]
@[simp] theorem oIx0 {a : P} {l : List P} : oIx (.tup (a :: l)) (.int 0) = some (.p a) := by
  show (L2.atI _ _).map _ = _
  rw [atI0]; rfl
@[simp] theorem oIx1 {a b : P} {l : List P} : oIx (.tup (a :: b :: l)) (.int 1) = some (.p b) := by
  show (L2.atI _ _).map _ = _
  rw [atI1]; rfl
theorem sp_is_stretch {x : Str × Int} {M : Sto} (hs : isLet x.1 "bgr" = true) (h1 : 1 ≤ x.2) (h2 : x.2 ≤ GRT) : F_is_stretch [.p (stP x)] M = .ok (.p (.bl true)) M := by
  unfold F_is_stretch b_is_stretch stP
  rw [fnB1]
  simp [sp_is_letter hs, sp_is_integer, h1, h2]
theorem lim_big : 1000 ≤ lim := by decide
theorem sp_is_machine {rb : List (Str × Int)} {st : List Int} {M : Sto} (h : MOk rb st) : F_is_machine [.p (machP rb st)] M = .ok (.p (.bl true)) M := by
  unfold F_is_machine b_is_machine machP
  rw [fnB1]
  have hl := lim_big
  have e1 : ∀ σ : Fr, σ[1]? = some (some (.p (.tup (rb.map stP)))) → 4 < σ.length → ∀ M, eLc (.nm 4) [4] (iOf (eVar 1)) bYes (eCall 1 F_is_stretch (aCons (eVar 4) aNil)) σ M = .ok (.nw (List.replicate rb.length (.bl true))) M := by
    intro σ h1 h4 M
    rw [show List.replicate rb.length (P.bl true) = (rb.map stP).map (fun _ => P.bl true) by rw [List.map_const', List.length_map]]
    refine eLc_map (fun _ => .bl true) (by simp [h1]) rfl (fun p hp => ?_) (by have := h.l2; simp; omega)
    obtain ⟨x, hx, rfl⟩ := List.mem_map.mp hp
    obtain ⟨c1, c2, c3⟩ := h.c x hx
    refine ⟨_, x_nm, fun M' => ⟨.p (.bl true), ?_, rfl⟩⟩
    simp [wipeF, h4, sp_is_stretch c1 c2 c3]
  have e2 : ∀ σ : Fr, σ[2]? = some (some (.p (.tup (st.map P.int)))) → 3 < σ.length → ∀ M, eLc (.nm 3) [3] (iOf (eVar 2)) bYes (eCall 3 F_is_integer (aCons (eVar 3) (aCons (eC (.int 0)) (aCons (eC (.int 9)) aNil)))) σ M = .ok (.nw (List.replicate st.length (.bl true))) M := by
    intro σ h1 h4 M
    rw [show List.replicate st.length (P.bl true) = (st.map P.int).map (fun _ => P.bl true) by rw [List.map_const', List.length_map]]
    refine eLc_map (fun _ => .bl true) (by simp [h1]) rfl (fun p hp => ?_) (by have := h.s1; simp; omega)
    obtain ⟨x, hx, rfl⟩ := List.mem_map.mp hp
    obtain ⟨c1, c2⟩ := h.s2 x hx
    refine ⟨_, x_nm, fun M' => ⟨.p (.bl true), ?_, rfl⟩⟩
    simp [wipeF, h4, sp_is_integer, c1, c2]
  have a1 : ∀ n : Nat, cAll [.lst (List.replicate n (P.bl true))] = some (.p (.bl true)) := by
    intro n
    rw [show List.replicate n (P.bl true) = (List.replicate n true).map P.bl by simp, cAll_map]
    simp
  have n1 : (1 : Int) ≤ rb.length := by have := h.l1; omega
  have n2 : (rb.length : Int) ≤ 6 := by have := h.l2; omega
  have n3 : oNotIn (.int st.length) (.tup [.int 2, .int 3]) = some (.p (.bl false)) := by
    rcases h.s1 with e | e <;> rw [e] <;> rfl
  have hl2 : 2 ≤ lim := by omega
  simp [e1, e2, a1, n1, n2, n3, hl2]
end Ev

set_option linter.all false
set_option maxRecDepth 100000
set_option maxHeartbeats 4000000
/-! Spec2: signs, steps, standings, colours, arcs. -/
namespace Ev
open PySem
abbrev cs (z : Str) : List Nat := z.cps.toList
abbrev sg (c : Nat) : Str := ⟨#[c]⟩
def sgs (st : List Int) : List Nat := [120, 121, 122].take st.length
def lenS (rb : List (Str × Int)) : Int := (rb.map (·.2)).sum
def stepS (st : List Int) (c : Nat) : Int := (([120, 121, 122].zip st).filterMap fun x => if x.1 = c then some x.2 else none).sum
def stepsS (st : List Int) (l : List Nat) : Int := (l.map (stepS st)).sum
structure LOk (st : List Int) (l : Str) : Prop where
  ne : cs l ≠ []
  le : (cs l).length ≤ 40
  mem : ∀ c ∈ cs l, c ∈ sgs st
theorem ts {M : Sto} {n : Nat} (h : n = M.length) : M.take n = M := by rw [h, List.take_length]
@[simp] theorem ts' {M : Sto} : M.take M.length = M := List.take_length
@[simp] theorem oIx0m {rb : List (Str × Int)} {st : List Int} : oIx (machP rb st) (.int 0) = some (.p (.tup (rb.map stP))) := by unfold machP; simp
@[simp] theorem oIx1m {rb : List (Str × Int)} {st : List Int} : oIx (machP rb st) (.int 1) = some (.p (.tup (st.map P.int))) := by unfold machP; simp
@[simp] theorem mulOk2 {j : Int} : mulOk 2 j = true := by
  have : (decide (-(2 ^ 64) < (2 : Int)) && decide ((2 : Int) < 2 ^ 64)) = true := by decide
  unfold mulOk
  rw [this]; rfl
@[simp] theorem oMul2 {j : Int} : oMul (.int 2) (.int j) = some (.p (.int (2 * j))) := by
  show (if mulOk 2 j = true then some (D.p (.int (2 * j))) else none) = _
  rw [mulOk2]; rfl
theorem sp_signs_of {rb : List (Str × Int)} {st : List Int} {M : Sto} (h : MOk rb st) : F_signs_of [.p (machP rb st)] M = .ok (.p (.str ⟨(sgs st).toArray⟩)) M := by
  unfold F_signs_of b_signs_of
  rw [fnB1]
  rcases h.s1 with e | e
  · have k : oSl none (some 2) (.str "xyz") = some (.p (.str ⟨(sgs st).toArray⟩)) := by
      unfold sgs; rw [e]; rfl
    simp [eSl, sSome, sNone, e, k]
  · have k : oSl none (some 3) (.str "xyz") = some (.p (.str ⟨(sgs st).toArray⟩)) := by
      unfold sgs; rw [e]; rfl
    simp [eSl, sSome, sNone, e, k]
theorem a1n {n : Nat} : cAll [.lst (List.replicate n (P.bl true))] = some (.p (.bl true)) := by
  rw [show List.replicate n (P.bl true) = (List.replicate n true).map P.bl by simp, cAll_map]
  simp
theorem rep_map {α : Type} {l : List α} {p : P} : List.replicate l.length p = l.map (fun _ => p) := by rw [List.map_const']
theorem len_cs {z : Str} : z.length = (cs z).length := by
  show z.cps.size = _
  simp
theorem sp_are_signs {rb : List (Str × Int)} {st : List Int} {l : Str} {k : Int} {M : Sto} (h : MOk rb st) (hk : ((cs l).length : Int) ≤ k) (hl : (cs l).length ≤ lim) (hm : ∀ c ∈ cs l, c ∈ sgs st) :
    F_are_signs [.p (machP rb st), .p (.str l), .p (.int k)] M = .ok (.p (.bl true)) M := by
  unfold F_are_signs b_are_signs
  rw [fnB3]
  have e1 : ∀ σ : Fr, σ[1]? = some (some (.p (.str l))) → σ[0]? = some (some (.p (machP rb st))) → 3 < σ.length → ∀ M, eLc (.nm 3) [3] (iOf (eVar 1)) bYes (eBin oIn (eVar 3) (eCall 1 F_signs_of (aCons (eVar 0) aNil))) σ M = .ok (.nw (List.replicate (cs l).length (.bl true))) M := by
    intro σ h1 h0 h4 M
    rw [show List.replicate (cs l).length (P.bl true) = (chars l).map (fun _ => P.bl true) by rw [List.map_const']; simp [chars]]
    refine eLc_map (fun _ => .bl true) (by simp [h1]) rfl (fun p hp => ?_) (by simpa [chars] using hl)
    obtain ⟨c, hc, rfl⟩ := List.mem_map.mp hp
    refine ⟨_, x_nm, fun M' => ⟨.p (.bl true), ?_, rfl⟩⟩
    have : c ∈ (⟨(sgs st).toArray⟩ : Str).cps.toList := by simpa using hm c hc
    have k := oIn_s (c := c) (l := ⟨(sgs st).toArray⟩)
    rw [decide_eq_true this] at k
    simp [wipeF, h4, h0, sp_signs_of h, k]
  have e2 : cLen [.str l] = some (.p (.int (cs l).length)) := by rw [c_len_s (by rw [len_cs]; exact hl), len_cs]
  have e3 : ¬ (k < ((cs l).length : Int)) := by omega
  simp only [Array.length_toList] at e1 e2 e3
  simp [e1, e2, e3, a1n]
theorem sp_length_by {rb : List (Str × Int)} {st : List Int} {M : Sto} (h : rb.length ≤ lim) : F_length_by [.p (machP rb st)] M = .ok (.p (.int (lenS rb))) M := by
  unfold F_length_by b_length_by
  rw [fnB1]
  have e1 : ∀ σ : Fr, σ[0]? = some (some (.p (machP rb st))) → 2 < σ.length → ∀ M, eLc (.tu [(.nm 1), (.nm 2)]) [1, 2] (iOf (eBin oIx (eVar 0) (eC (.int 0)))) bYes (eVar 2) σ M = .ok (.nw ((rb.map (·.2)).map P.int)) M := by
    intro σ h0 h2 M
    rw [show (rb.map (·.2)).map P.int = (rb.map stP).map (fun p => match p with | .tup [_, x] => x | _ => .non) by simp [stP]]
    refine eLc_map _ (by simp [h0]) rfl (fun p hp => ?_) (by simpa using h)
    obtain ⟨x, hx, rfl⟩ := List.mem_map.mp hp
    refine ⟨_, by simp [stP]; rfl, fun M' => ⟨.p (.int x.2), ?_, rfl⟩⟩
    simp [wipeF, h2]
  simp only [x_sSeq, x_sRet, x_eCB, x_aCons, x_aNil]
  rw [e1 _ rfl (by simp)]
  simp only [Out.bind, x_valn, x_getL, x_getL0, x_get, cSum_map]
  simp [lenS]
theorem sp_step_of {rb : List (Str × Int)} {st : List Int} {c : Nat} {M : Sto} (h : MOk rb st) : F_step_of [.p (machP rb st), .p (.str (sg c))] M = .ok (.p (.int (stepS st c))) M := by
  unfold F_step_of b_step_of
  rw [fnB2]
  let f : P → Option P := fun p => match p with
    | .tup [.str s, x] => if s = sg c then some x else none
    | _ => none
  let it : List P := List.zipWith (fun x y => P.tup [x, y]) (chars "xyz") (st.map P.int)
  have e1 : ∀ σ : Fr, σ[0]? = some (some (.p (machP rb st))) → σ[1]? = some (some (.p (.str (sg c)))) → 3 < σ.length → ∀ M,
      eLc (.tu [(.nm 2), (.nm 3)]) [2, 3] (iZip (aCons (eC (.str "xyz")) (aCons (eBin oIx (eVar 0) (eC (.int 1))) aNil))) (bOf (eBin oEq (eVar 2) (eVar 1))) (eVar 3) σ M = .ok (.nw (it.filterMap f)) M := by
    intro σ h0 h1 h3 M
    have hit : ∀ p ∈ it, ∃ s n, p = .tup [.str s, .int n] := by
      intro p hp
      obtain ⟨i, hi⟩ := List.mem_iff_getElem?.mp hp
      simp only [it, List.getElem?_zipWith] at hi
      split at hi
      · rename_i a b ha hb
        cases hi
        simp only [chars, List.getElem?_map, Option.map_eq_some_iff] at ha hb
        obtain ⟨c', _, rfl⟩ := ha
        obtain ⟨n, _, rfl⟩ := hb
        exact ⟨_, _, rfl⟩
      · cases hi
    refine eLc_pure f (by simp [iZip, h0, P.items, it]) rfl (fun p hp => ?_) (by
      have : it.length ≤ 3 := by simp only [it, List.length_zipWith]; exact Nat.le_trans (Nat.min_le_left _ _) (by decide +kernel)
      have := lim_big; omega)
    obtain ⟨s, n, rfl⟩ := hit p hp
    refine ⟨_, by simp; rfl, fun M' => ⟨?_, fun q hq => ?_⟩⟩
    · have h2 : 2 < σ.length := by omega
      by_cases e : s = sg c
      · simp [f, e, wipeF, h1, h2, h3]
      · simp [f, e, wipeF, h1, h2, h3]
    · simp only [f] at hq
      split at hq
      · cases hq
        exact ⟨_, by simp [wipeF, h3]; rfl, rfl⟩
      · cases hq
  have e2 : it.filterMap f = (([120, 121, 122].zip st).filterMap fun x => if x.1 = c then some x.2 else none).map P.int := by
    have hch : chars "xyz" = [.str (sg 120), .str (sg 121), .str (sg 122)] := by rfl
    simp only [it, hch]
    have hd : ∀ a b : Nat, (sg a = sg b) ↔ a = b := fun a b => by simp [sg]
    match st, h.s1 with
    | [a, b], _ => simp [f, hd, List.filterMap_cons]; (repeat' split) <;> simp_all
    | [a, b, d], _ => simp [f, hd, List.filterMap_cons]; (repeat' split) <;> simp_all
    | [], e => simp at e
    | [a], e => simp at e
    | a :: b :: d :: e :: r, e' => simp at e'
  simp only [x_sSeq, x_sRet, x_eCB, x_aCons, x_aNil]
  rw [e1 _ rfl rfl (by simp), e2]
  simp only [Out.bind, x_valn, x_getL, x_getL0, x_get, cSum_map]
  simp [stepS]
theorem sp_steps_by {rb : List (Str × Int)} {st : List Int} {l : Str} {M : Sto} (h : MOk rb st) (hl : (cs l).length ≤ lim) : F_steps_by [.p (machP rb st), .p (.str l)] M = .ok (.p (.int (stepsS st (cs l)))) M := by
  unfold F_steps_by b_steps_by
  rw [fnB2]
  have e1 : ∀ σ : Fr, σ[0]? = some (some (.p (machP rb st))) → σ[1]? = some (some (.p (.str l))) → 2 < σ.length → ∀ M, eLc (.nm 2) [2] (iOf (eVar 1)) bYes (eCall 2 F_step_of (aCons (eVar 0) (aCons (eVar 2) aNil))) σ M = .ok (.nw (((cs l).map (stepS st)).map P.int)) M := by
    intro σ h0 h1 h2 M
    rw [show ((cs l).map (stepS st)).map P.int = (chars l).map (fun p => match p with | .str s => (match cs s with | [c] => .int (stepS st c) | _ => .non) | _ => .non) by simp [chars]]
    refine eLc_map _ (by simp [h1]) rfl (fun p hp => ?_) (by simpa [chars] using hl)
    obtain ⟨c, hc, rfl⟩ := List.mem_map.mp hp
    refine ⟨_, x_nm, fun M' => ⟨.p (.int (stepS st c)), ?_, rfl⟩⟩
    simp [wipeF, h2, h0, sp_step_of h]
  simp only [x_sSeq, x_sRet, x_eCB, x_aCons, x_aNil]
  rw [e1 _ rfl rfl (by simp)]
  simp only [Out.bind, x_valn, x_getL, x_getL0, x_get, cSum_map]
  simp [stepsS]
end Ev

set_option linter.all false
set_option maxRecDepth 100000
set_option maxHeartbeats 4000000
/-! Spec3: places, colours, arcs, what is needed. -/
namespace Ev
open PySem
theorem MOk.ll {rb : List (Str × Int)} {st : List Int} (h : MOk rb st) : rb.length ≤ lim := by have := h.l2; have := lim_big; omega
theorem LOk.ll {st : List Int} {l : Str} (h : LOk st l) : (cs l).length ≤ lim := by have := h.le; have := lim_big; omega
theorem lenS_pos {rb : List (Str × Int)} (h : ∀ x ∈ rb, 1 ≤ x.2) (hl : 1 ≤ rb.length) : (rb.length : Int) ≤ lenS rb := by
  unfold lenS
  induction rb with
  | nil => simp at hl
  | cons a r ih =>
    cases r with
    | nil => have := h a List.mem_cons_self; simp; omega
    | cons b r =>
      have h1 := h a List.mem_cons_self
      have h2 := ih (fun x hx => h x (List.mem_cons_of_mem _ hx)) (by simp)
      simp at h2 ⊢
      omega
theorem MOk.pos {rb : List (Str × Int)} {st : List Int} (h : MOk rb st) : 0 < lenS rb := by
  have := lenS_pos (fun x hx => (h.c x hx).2.1) h.l1
  have := h.l1
  omega
def placeS (rb : List (Str × Int)) (s : Int) : Int := if s < lenS rb then s else 2 * lenS rb - 1 - s
theorem sp_place_by {rb : List (Str × Int)} {st : List Int} {s : Int} {M : Sto} (h : MOk rb st) : F_place_by [.p (machP rb st), .p (.int s)] M = .ok (.p (.int (placeS rb s))) M := by
  unfold F_place_by b_place_by
  rw [fnB2]
  by_cases hs : s < lenS rb <;> simp [sp_length_by h.ll, hs, placeS]
/-- the colour of the first stretch that reaches beyond left -/
def colS : List (Str × Int) → Int → Str
  | [], _ => ""
  | (c, n) :: r, left => if left < n then c else colS r (left - n)
def bodyC : EvS := (sSeq (sIf (bAnd (bOf (eBin oEq (eVar 3) (eC (.str "")))) (bOf (eBin oLt (eVar 2) (eVar 5)))) (sSeq (sSet 3 (eVar 4))
    sNil) sNil)
    (sSeq (sAug 2 oSub (eVar 5))
    sNil))
theorem colour_loop {m s : Option D} {M : Sto} : ∀ (rb : List (Str × Int)) (left : Int) (found : Str) (x y : Option D), (∀ a ∈ rb, a.1 ≠ "") →
    ∃ l x' y', forL (.tu [(.nm 4), (.nm 5)]) bodyC (rb.map stP) [m, s, some (.p (.int left)), some (.p (.str found)), x, y] M =
      .ok (.nx [m, s, some (.p (.int l)), some (.p (.str (if found = "" then colS rb left else found))), x', y']) M
  | [], left, found, x, y, _ => ⟨left, x, y, by
      rw [show ([] : List (Str × Int)).map stP = [] from rfl, forL]
      by_cases h : found = "" <;> simp [h, colS]⟩
  | (c, n) :: r, left, found, x, y, hne => by
    have hc : c ≠ "" := hne _ List.mem_cons_self
    by_cases h1 : found = ""
    · by_cases h2 : left < n
      · obtain ⟨l, x', y', e⟩ := colour_loop r (left - n) c (some (.p (.str c))) (some (.p (.int n))) fun a ha => hne a (List.mem_cons_of_mem _ ha)
        refine ⟨l, x', y', ?_⟩
        rw [if_neg hc] at e
        rw [List.map_cons, forL]
        simp [stP, bodyC, h1, h2, colS]
        simpa [bodyC] using e
      · obtain ⟨l, x', y', e⟩ := colour_loop r (left - n) found (some (.p (.str c))) (some (.p (.int n))) fun a ha => hne a (List.mem_cons_of_mem _ ha)
        refine ⟨l, x', y', ?_⟩
        rw [if_pos h1] at e
        rw [List.map_cons, forL]
        simp [stP, bodyC, h1, h2, colS]
        simpa [bodyC, h1] using e
    · obtain ⟨l, x', y', e⟩ := colour_loop r (left - n) found (some (.p (.str c))) (some (.p (.int n))) fun a ha => hne a (List.mem_cons_of_mem _ ha)
      refine ⟨l, x', y', ?_⟩
      rw [if_neg h1] at e ⊢
      rw [List.map_cons, forL]
      simp [stP, bodyC, h1]
      simpa [bodyC] using e
theorem col_ne {s l : Str} (h : isLet s l = true) : s ≠ "" := by
  obtain ⟨c, rfl, _⟩ := isLet_len h
  intro z
  have h1 := congrArg (fun s : Str => s.cps.size) z
  have h0 : ("" : Str).cps.size = 0 := by decide +kernel
  dsimp only at h1
  rw [h0] at h1
  simp at h1
theorem sp_colour_by {rb : List (Str × Int)} {st : List Int} {s : Int} {M : Sto} (h : MOk rb st) : F_colour_by [.p (machP rb st), .p (.int s)] M = .ok (.p (.str (colS rb (placeS rb s)))) M := by
  unfold F_colour_by b_colour_by
  rw [fnB2]
  obtain ⟨l, x', y', e⟩ := colour_loop (m := some (.p (machP rb st))) (s := some (.p (.int s))) (M := M) rb (placeS rb s) "" none none fun a ha => col_ne (h.c a ha).1
  unfold bodyC at e
  simp [sp_place_by h, sFor, e]

/-! ### arcs -/
/-- the stretches of a colour: begin, size -/
def rowsS (col : Str) : List (Str × Int) → Int → List (Int × Int)
  | [], _ => []
  | (c, n) :: r, b => if c = col then (b, n) :: rowsS col r (b + n) else rowsS col r (b + n)
def arcsS (rb : List (Str × Int)) (col : Str) : List (Int × Int) :=
  (rowsS col rb 0).map (fun x => (x.1, x.1 + x.2 - 1)) ++ (rowsS col rb 0).map (fun x => (2 * lenS rb - x.1 - x.2, 2 * lenS rb - 1 - x.1))
def prP (x : Int × Int) : P := .tup [.int x.1, .int x.2]
def begS (rb : List (Str × Int)) : List Int := (List.range rb.length).map fun i => lenS (rb.take i)
theorem rows_zip (col : Str) : ∀ (rb : List (Str × Int)) (b : Int), rowsS col rb b = (((List.range rb.length).map fun i => b + lenS (rb.take i)).zip rb).filterMap fun x => if x.2.1 = col then some (x.1, x.2.2) else none
  | [], _ => rfl
  | (c, n) :: r, b => by
    have ih := rows_zip col r (b + n)
    have e : (List.range (r.length + 1)).map (fun i => b + lenS (((c, n) :: r).take i)) = b :: (List.range r.length).map (fun i => b + n + lenS (r.take i)) := by
      rw [List.range_succ_eq_map]
      simp [lenS, Function.comp_def]
      intro i hi
      omega
    rw [List.length_cons, e, List.zip_cons_cons, List.filterMap_cons]
    by_cases h : c = col
    · simp [rowsS, h, ih]
    · simp [rowsS, h, ih]
theorem rows_len (col : Str) : ∀ (rb : List (Str × Int)) (b : Int), (rowsS col rb b).length ≤ rb.length
  | [], _ => Nat.le_refl _
  | (c, n) :: r, b => by
    have := rows_len col r (b + n)
    unfold rowsS
    split <;> simp <;> omega
theorem cutP_take {ps : List P} {i : Nat} : cutP ps none (some (i : Int)) = ps.take i := by
  unfold cutP
  rw [HT.sIx_nat, HT.sIx_none]
  simp [Nat.min_comm, List.take_eq_take_iff]
theorem rg_ok {n : Nat} (h : n ≤ lim) : rgOk (n : Int) = true := by
  have h2 : (lim : Int) < 2 ^ 62 := by decide
  have h3 : -(2 ^ 62) ≤ (0 : Int) := by decide
  have h4 : (n : Int) ≤ (lim : Int) := Int.ofNat_le.mpr h
  unfold rgOk
  rw [Bool.and_eq_true, decide_eq_true_eq, decide_eq_true_eq]
  exact ⟨Int.le_trans h3 (Int.natCast_nonneg _), Int.lt_of_le_of_lt h4 h2⟩
theorem arcs_e2 {rb : List (Str × Int)} (hl : rb.length ≤ lim) {σ : Fr} {i : Nat} (h5 : σ[5]? = some (some (.p (.tup (rb.map stP))))) (h7 : σ[7]? = some (some (.p (.int (i : Int))))) (h10 : 10 < σ.length) (M : Sto) :
    eLc (.tu [(.nm 10), (.nm 9)]) [10, 9] (iOf (eSl (eVar 5) sNone (sSome (eVar 7)))) bYes (eVar 9) σ M = .ok (.nw (((rb.take i).map (·.2)).map P.int)) M := by
  have h9 : 9 < σ.length := by omega
  have hq : ((rb.take i).map (·.2)).map P.int = ((rb.take i).map stP).map (fun p => match p with | .tup [_, x] => x | _ => .non) := by
    rw [List.map_map, List.map_map]; rfl
  rw [hq]
  have hc : cutP (rb.map stP) none (some (i : Int)) = (rb.take i).map stP := by rw [cutP_take, List.map_take]
  refine eLc_map _ (by simp [eSl, sNone, sSome, h7, h5, oSl, hc]) rfl (fun p hp => ?_) (by simp; omega)
  obtain ⟨x, hx, rfl⟩ := List.mem_map.mp hp
  refine ⟨_, by simp [stP]; rfl, fun M' => ⟨.p (.int x.2), ?_, rfl⟩⟩
  simp [wipeF, h9]
theorem arcs_e1 {rb : List (Str × Int)} (hl : rb.length ≤ lim) {σ : Fr} (h5 : σ[5]? = some (some (.p (.tup (rb.map stP))))) (h10 : 10 < σ.length) (M : Sto) :
    eLc (.nm 7) [7] (iRange1 (aCons (eCB cLen (aCons (eVar 5) aNil)) aNil)) bYes (eCB cSum (aCons (eLc (.tu [(.nm 10), (.nm 9)]) [10, 9] (iOf (eSl (eVar 5) sNone (sSome (eVar 7)))) bYes (eVar 9)) aNil)) σ M = .ok (.nw ((begS rb).map P.int)) M := by
  have hr := rg_ok hl
  have h7 : 7 < σ.length := by omega
  have hq : (begS rb).map P.int = (rgs 0 rb.length).map (fun p => match p with | .int i => .int (lenS (rb.take i.toNat)) | _ => .non) := by
    simp [begS, rgs, Function.comp_def]
  rw [hq]
  refine eLc_map _ (by simp [iRange1, h5, hr]) rfl (fun p hp => ?_) (by simp [rgs]; omega)
  obtain ⟨i, hi, rfl⟩ := List.mem_map.mp hp
  refine ⟨_, x_nm, fun M' => ⟨.p (.int (lenS (rb.take i))), ?_, by simp⟩⟩
  have e2 := arcs_e2 (rb := rb) hl (σ := (wipeF σ [7]).set 7 (some (.p (.int (0 + (i : Int)))))) (i := i) (by simp [wipeF, h5]) (by simp [wipeF, h7]) (by simp [wipeF]; omega) M'
  simp only [x_eCB, x_aCons, x_aNil]
  rw [e2]
  simp only [Out.bind, x_valn, x_getL, x_getL0, x_get, cSum_map]
  rfl
def rowF (col : Str) : P → Option P
  | .tup [b, .tup [.str c, n]] => if c = col then some (.tup [b, n]) else none
  | _ => none
theorem arcs_e3 {rb : List (Str × Int)} {col : Str} (hl : rb.length ≤ lim) {σ : Fr} (h2 : σ[2]? = some (some (.p (.lst ((begS rb).map P.int))))) (h5 : σ[5]? = some (some (.p (.tup (rb.map stP))))) (h1 : σ[1]? = some (some (.p (.str col)))) (h10 : 10 < σ.length) (M : Sto) :
      eLc (.tu [(.nm 8), (.tu [(.nm 10), (.nm 9)])]) [8, 10, 9] (iZip (aCons (eVar 2) (aCons (eVar 5) aNil))) (bOf (eBin oEq (eVar 10) (eVar 1))) (eTup (aCons (eVar 8) (aCons (eVar 9) aNil))) σ M = .ok (.nw ((rowsS col rb 0).map prP)) M := by
  have h9 : 9 < σ.length := by omega
  have h8 : 8 < σ.length := by omega
  have r2 : 2 ≤ lim := Nat.le_trans (by decide) lim_big
  have hz : (List.zipWith (fun x y => P.tup [x, y]) ((begS rb).map P.int) (rb.map stP)) = ((begS rb).zip rb).map fun x => P.tup [.int x.1, stP x.2] := by
    rw [List.zipWith_map, List.zip, List.map_zipWith]
  have hr : (rowsS col rb 0).map prP = (((begS rb).zip rb).map fun x => P.tup [.int x.1, stP x.2]).filterMap (rowF col) := by
    rw [rows_zip, List.filterMap_map, List.map_filterMap]
    have : ((List.range rb.length).map fun i => (0 : Int) + lenS (rb.take i)) = begS rb := by simp [begS]
    rw [this]
    congr 1
    funext x
    by_cases hx : x.2.1 = col <;> simp [rowF, stP, hx, prP]
  rw [hr, ← hz]
  refine eLc_pure (rowF col) (by simp [iZip, h2, h5, P.items]) rfl (fun p hp => ?_) (by simp [begS]; omega)
  rw [hz] at hp
  obtain ⟨x, hx, rfl⟩ := List.mem_map.mp hp
  refine ⟨_, by simp [stP]; rfl, fun M' => ⟨?_, fun q hq => ?_⟩⟩
  · by_cases hx : x.2.1 = col <;> simp [rowF, stP, hx, wipeF, h10, h1]
  · simp only [rowF, stP] at hq
    split at hq
    · cases hq
      exact ⟨.p (.tup [.int x.1, .int x.2.2]), by simp [wipeF, h8, h9, r2], rfl⟩
    · cases hq
theorem arcs_e4 {rws : List (Int × Int)} (hl : rws.length ≤ lim) {σ : Fr} {g : EvD} {k : Int × Int → Int × Int} (h3 : σ[3]? = some (some (.p (.lst (rws.map prP))))) (h10 : 10 < σ.length)
    (hg : ∀ (x : Int × Int) M', ∃ d, g ((((wipeF σ [8, 9]).set 8 (some (.p (.int x.1)))).set 9 (some (.p (.int x.2))))) M' = .ok d M' ∧ d.val = .p (prP (k x))) (M : Sto) :
      eLc (.tu [(.nm 8), (.nm 9)]) [8, 9] (iOf (eVar 3)) bYes g σ M = .ok (.nw ((rws.map k).map prP)) M := by
  have hq : (rws.map k).map prP = (rws.map prP).map (fun p => match p with | .tup [.int a, .int b] => prP (k (a, b)) | _ => .non) := by
    rw [List.map_map, List.map_map]; rfl
  rw [hq]
  refine eLc_map _ (by simp [h3]) rfl (fun p hp => ?_) (by simpa using hl)
  obtain ⟨x, hx, rfl⟩ := List.mem_map.mp hp
  exact ⟨_, by simp [prP], fun M' => hg x M'⟩
theorem oAdd_l {a b : List P} (h : a.length + b.length ≤ lim) : oAdd (.lst a) (.lst b) = some (.nw (a ++ b)) := if_pos h
theorem sp_arcs_of {rb : List (Str × Int)} {st : List Int} {col : Str} {M : Sto} (h : MOk rb st) : F_arcs_of [.p (machP rb st), .p (.str col)] M = .ok (.nw ((arcsS rb col).map prP)) M := by
  have hl := h.ll
  have hrl : (rowsS col rb 0).length ≤ lim := Nat.le_trans (rows_len col rb 0) hl
  have hsum : (rowsS col rb 0).length + (rowsS col rb 0).length ≤ lim := by have := rows_len col rb 0; have := h.l2; have := lim_big; omega
  have r2 : 2 ≤ lim := Nat.le_trans (by decide) lim_big
  unfold F_arcs_of
  rw [fnB2]
  refine lv_n ?_
  unfold b_arcs_of
  rw [seq_ok (unp_ok (M1 := M) (p := .tup [.tup (rb.map stP), .int (2 * lenS rb)]) (by simp [sp_length_by hl, r2]) (by simp; rfl))]
  rw [seq_ok (set_ok (arcs_e1 (rb := rb) hl (by simp) (by simp) M))]
  rw [seq_ok (set_ok (arcs_e3 (rb := rb) (col := col) hl (by simp) (by simp) (by simp) (by simp) M))]
  rw [seq_ok (set_ok (arcs_e4 (rws := rowsS col rb 0) (k := fun x => (x.1, x.1 + x.2 - 1)) hrl (by simp) (by simp) (fun x M' => ⟨.p (prP (x.1, x.1 + x.2 - 1)), by simp [wipeF, r2, prP], by simp⟩) M))]
  refine seq_rt (ret_ok (bin_ok (d1 := .p (.lst (((rowsS col rb 0).map fun x => (x.1, x.1 + x.2 - 1)).map prP))) (by simp) (arcs_e4 (rws := rowsS col rb 0) (k := fun x => (2 * lenS rb - x.1 - x.2, 2 * lenS rb - 1 - x.1)) hrl (by simp) (by simp) (fun x M' => ⟨.p (prP (2 * lenS rb - x.1 - x.2, 2 * lenS rb - 1 - x.1)), by simp [wipeF, r2, prP], by simp⟩) M) rfl rfl ?_))
  rw [oAdd_l (by rw [List.length_map, List.length_map, List.length_map, List.length_map]; exact hsum), arcsS, List.map_append]
end Ev

set_option linter.all false
set_option maxRecDepth 100000
set_option maxHeartbeats 4000000
/-! Spec4: needs, standings, the divisor. -/
namespace Ev
open PySem
section
variable {rb : List (Str × Int)} {st : List Int} {M : Sto}
theorem sp_need_machine (h : MOk rb st) : F_need_machine [.p (machP rb st)] M = .ok (.p .non) M := by
  unfold F_need_machine b_need_machine
  rw [fnB1]
  simp [sp_is_machine h]
theorem sp_need_standing {s : Int} (h : MOk rb st) (h1 : 0 ≤ s) (h2 : s ≤ 2 * lenS rb - 1) : F_need_standing [.p (machP rb st), .p (.int s)] M = .ok (.p .non) M := by
  unfold F_need_standing b_need_standing
  rw [fnB2]
  simp [sp_length_by h.ll, sp_is_integer, h1, h2]
theorem cs_ne {l : Str} (h : cs l ≠ []) : l ≠ "" := fun e => by
  subst e
  exact h (by decide +kernel)
theorem sp_need_line {l : Str} (h : MOk rb st) (hl : LOk st l) : F_need_line [.p (machP rb st), .p (.str l)] M = .ok (.p .non) M := by
  unfold F_need_line b_need_line
  rw [fnB2]
  have k : (((cs l).length : Nat) : Int) ≤ 40 := by have := hl.le; omega
  simp [cs_ne hl.ne, sp_are_signs h k hl.ll hl.mem]
theorem sp_need_number {n : Int} (h1 : 0 ≤ n) (h2 : n ≤ GRT) : F_need_number [.p (.int n)] M = .ok (.p .non) M := by
  unfold F_need_number b_need_number
  rw [fnB1]
  simp [sp_is_integer, h1, h2]
theorem len_ok {l : Str} (hl : (cs l).length ≤ lim) : cLen [.str l] = some (.p (.int (cs l).length)) := by rw [c_len_s (by rw [len_cs]; exact hl), len_cs]
theorem sp_need_index {l : Str} {i : Int} (hl : (cs l).length ≤ lim) (h1 : 0 ≤ i) (h2 : i ≤ (cs l).length - 1) : F_need_index [.p (.str l), .p (.int i)] M = .ok (.p .non) M := by
  unfold F_need_index b_need_index
  rw [fnB2]
  have e := len_ok hl
  simp only [Array.length_toList] at e h2
  simp [e, sp_is_integer, h1, h2]
theorem sp_need_place {s : Int} (h : MOk rb st) (h1 : 0 ≤ s) (h2 : s ≤ lenS rb - 1) : F_need_place [.p (machP rb st), .p (.int s)] M = .ok (.p .non) M := by
  unfold F_need_place b_need_place
  rw [fnB2]
  simp [sp_length_by h.ll, sp_is_integer, h1, h2]
theorem sp_need_colour {c : Str} (h : isLet c "bgr" = true) : F_need_colour [.p (.str c)] M = .ok (.p .non) M := by
  unfold F_need_colour b_need_colour
  rw [fnB1]
  simp [sp_is_letter h]
theorem sp_need_all {s : Int} {l : Str} (h : MOk rb st) (h1 : 0 ≤ s) (h2 : s ≤ 2 * lenS rb - 1) (hl : LOk st l) : F_need_all [.p (machP rb st), .p (.int s), .p (.str l)] M = .ok (.p .non) M := by
  unfold F_need_all b_need_all
  rw [fnB3]
  simp [sp_need_machine h, sp_need_standing h h1 h2, sp_need_line h hl]
theorem sp_place_of {s : Int} (h : MOk rb st) (h1 : 0 ≤ s) (h2 : s ≤ 2 * lenS rb - 1) : F_place_of [.p (machP rb st), .p (.int s)] M = .ok (.p (.int (placeS rb s))) M := by
  unfold F_place_of b_place_of
  rw [fnB2]
  simp [sp_need_machine h, sp_need_standing h h1 h2, sp_place_by h]
theorem sp_colour_of {s : Int} (h : MOk rb st) (h1 : 0 ≤ s) (h2 : s ≤ 2 * lenS rb - 1) : F_colour_of [.p (machP rb st), .p (.int s)] M = .ok (.p (.str (colS rb (placeS rb s)))) M := by
  unfold F_colour_of b_colour_of
  rw [fnB2]
  simp [sp_need_machine h, sp_need_standing h h1 h2, sp_colour_by h]
/-! ### steps -/
theorem stepS_bd {c : Nat} (h : MOk rb st) : 0 ≤ stepS st c ∧ stepS st c ≤ 27 := by
  have hs := h.s2
  unfold stepS
  match st, h.s1, hs with
  | [a, b], _, hs =>
    have h1 := hs a (by simp)
    have h2 := hs b (by simp)
    simp only [List.zip_cons_cons, List.zip_nil_right, List.filterMap_cons, List.filterMap_nil]
    (repeat' split) <;> simp_all <;> omega
  | [a, b, d], _, hs =>
    have h1 := hs a (by simp)
    have h2 := hs b (by simp)
    have h3 := hs d (by simp)
    simp only [List.zip_cons_cons, List.zip_nil_right, List.filterMap_cons, List.filterMap_nil]
    (repeat' split) <;> simp_all <;> omega
  | [], e, _ => simp at e
  | [a], e, _ => simp at e
  | a :: b :: d :: e :: r, e', _ => simp at e'
theorem stepsS_bd (h : MOk rb st) : ∀ (l : List Nat), 0 ≤ stepsS st l ∧ stepsS st l ≤ 27 * l.length
  | [] => ⟨by simp [stepsS], by simp [stepsS]⟩
  | c :: l => by
    have h1 := stepS_bd (c := c) h
    have h2 := stepsS_bd h l
    simp only [stepsS, List.map_cons, List.sum_cons, List.length_cons] at h2 ⊢
    omega
def standS (rb : List (Str × Int)) (st : List Int) (b : Int) (l : Str) (n : Int) (i : Nat) : Int := (b + (n * stepsS st (cs l) + stepsS st ((cs l).take i))) % (2 * lenS rb)
theorem cutS_take {l : Str} {i : Nat} : cs (L2.cutS l none (some (i : Int))) = (cs l).take i := by
  unfold L2.cutS
  rw [HT.sIx_nat, HT.sIx_none]
  show (((cs l).drop 0).take (min i l.length - 0)).toArray.toList = _
  rw [List.drop_zero, Nat.sub_zero, len_cs]
  show (cs l).take (min i (cs l).length) = _
  rw [List.take_eq_take_iff]
  omega
theorem mulOk_r {i j : Int} (h1 : 0 ≤ j) (h2 : j < 2 ^ 64) : mulOk i j = true := by
  have : (decide (-(2 ^ 64) < j) && decide (j < 2 ^ 64)) = true := by
    rw [Bool.and_eq_true, decide_eq_true_eq, decide_eq_true_eq]
    exact ⟨Int.lt_of_lt_of_le (by decide) h1, h2⟩
  unfold mulOk
  rw [this]
  cases (decide (-(2 ^ 64) < i) && decide (i < 2 ^ 64)) <;> rfl
theorem mulOk_l {i j : Int} (h1 : 0 ≤ i) (h2 : i < 2 ^ 64) : mulOk i j = true := by
  have : (decide (-(2 ^ 64) < i) && decide (i < 2 ^ 64)) = true := by
    rw [Bool.and_eq_true, decide_eq_true_eq, decide_eq_true_eq]
    exact ⟨Int.lt_of_lt_of_le (by decide) h1, h2⟩
  unfold mulOk
  rw [this]; rfl
theorem oMul_ok {i j : Int} (h : mulOk i j = true) : oMul (.int i) (.int j) = some (.p (.int (i * j))) := by
  show (if mulOk i j = true then some (D.p (.int (i * j))) else none) = _
  rw [h]; rfl
theorem oSl_s {l : Str} {lo hi : Option Int} (h : (cs l).length ≤ lim) : oSl lo hi (.str l) = some (.p (.str (L2.cutS l lo hi))) := by
  show (if l.length ≤ lim then some (D.p (.str (L2.cutS l lo hi))) else none) = _
  rw [if_pos (by rw [len_cs]; exact h)]
theorem eSl_ok {fa : EvD} {fl fh : EvO} {σ : Fr} {M M1 M2 M3 : Sto} {d r : D} {l u : Option Int} {p : P} (h1 : fa σ M = .ok d M1) (h2 : fl σ M1 = .ok l M2) (h3 : fh σ M2 = .ok u M3) (h4 : d.get M3 = some p) (h5 : oSl l u p = some r) : eSl fa fl fh σ M = .ok r M3 := by
  unfold eSl
  rw [h1]
  show (fl σ M1).bind _ = _
  rw [h2]
  show (fh σ M2).bind _ = _
  rw [h3]
  show (match d.get M3 with
  | some p => (match oSl l u p with
    | some r => Out.ok r M3
    | none => .no)
  | none => .no) = _
  rw [h4]
  show (match oSl l u p with
    | some r => Out.ok r M3
    | none => .no) = _
  rw [h5]
theorem sp_standing_by {b n : Int} {l : Str} {i : Nat} (h : MOk rb st) (hl : (cs l).length ≤ 1000) : F_standing_by [.p (machP rb st), .p (.int b), .p (.str l), .p (.int n), .p (.int (i : Int))] M = .ok (.p (.int (standS rb st b l n i))) M := by
  have hll : (cs l).length ≤ lim := Nat.le_trans hl lim_big
  have hb := stepsS_bd h (cs l)
  have h27 : (27 * ((cs l).length : Int)) ≤ 27000 := by omega
  have hm : mulOk n (stepsS st (cs l)) = true := mulOk_r hb.1 (Int.lt_of_le_of_lt hb.2 (Int.lt_of_le_of_lt h27 (by decide)))
  have hp : 0 < 2 * lenS rb := by have := h.pos; omega
  have hc : (cs (L2.cutS l none (some (i : Int)))).length ≤ lim := by rw [cutS_take, List.length_take]; omega
  unfold F_standing_by
  rw [fnB5]
  refine lv_p ?_
  unfold b_standing_by
  have e1 := sp_steps_by (M := M) h hll
  have e2 := sp_steps_by (M := M) h hc
  rw [cutS_take] at e2
  rw [seq_ok (set_ok (d := .p (.int (n * stepsS st (cs l) + stepsS st ((cs l).take i)))) (M1 := M) (bin_ok (d1 := .p (.int (n * stepsS st (cs l)))) (M1 := M) (d2 := .p (.int (stepsS st ((cs l).take i))))
    (bin_ok (d1 := .p (.int n)) (d2 := .p (.int (stepsS st (cs l)))) (M1 := M) rfl (call_ok (n := 2) (cons_ok (d := .p (machP rb st)) (M1 := M) rfl (cons_ok (d := .p (.str l)) (M1 := M) rfl nil_ok)) rfl e1) rfl rfl (oMul_ok hm))
    (call_ok (n := 2) (cons_ok (d := .p (machP rb st)) (M1 := M) rfl (cons_ok (d := .p (.str (L2.cutS l none (some (i : Int))))) (M1 := M) (eSl_ok (d := .p (.str l)) (M1 := M) (M2 := M) (M3 := M) (l := none) (u := some (i : Int)) rfl rfl rfl rfl (oSl_s hll)) nil_ok)) rfl e2) rfl rfl rfl))]
  refine seq_rt (ret_ok (bin_ok (d1 := .p (.int (b + (n * stepsS st (cs l) + stepsS st ((cs l).take i))))) (d2 := .p (.int (2 * lenS rb))) (M1 := M) (by simp) ?_ rfl rfl (o_mod_i hp)))
  exact bin_ok (d1 := .p (.int 2)) (d2 := .p (.int (lenS rb))) (M1 := M) rfl (call_ok (n := 1) (cons_ok (d := .p (machP rb st)) (M1 := M) rfl nil_ok) rfl (sp_length_by h.ll)) rfl rfl oMul2
end

/-! ### the divisor -/
def cG : EvB := bOf (eBin oGt (eVar 1) (eC (.int 0)))
def bG : EvS := sSeq (sPar [0, 1] (aCons (eVar 1) (aCons (eBin oMod (eVar 0) (eVar 1)) aNil))) sNil
theorem gcd_loop {M : Sto} : ∀ (k m n : Nat), n < 2 ^ k → whL cG bG (2 * k + 1) [some (.p (.int m)), some (.p (.int n))] M = .ok (.nx [some (.p (.int (Nat.gcd m n))), some (.p (.int 0))]) M
  | k, m, 0, _ => by
    rw [whL]
    simp [cG]
  | 0, m, n + 1, h => by simp at h
  | k + 1, m, n + 1, h => by
    have step : ∀ (j : Nat) (m n : Nat), whL cG bG (j + 1) [some (.p (.int m)), some (.p (.int (n + 1 : Nat)))] M = whL cG bG j [some (.p (.int (n + 1 : Nat))), some (.p (.int ((m % (n + 1) : Nat) : Int)))] M := by
      intro j m n
      rw [whL]
      have hp : (0 : Int) < ((n : Int) + 1) := by omega
      simp [cG, bG, hp]
    have e1 := step (2 * k + 2) m n
    rw [show 2 * (k + 1) + 1 = (2 * k + 2) + 1 by omega]
    rw [e1, Nat.gcd_comm, Nat.gcd_rec]
    cases hr : m % (n + 1) with
    | zero =>
      rw [show 2 * k + 2 = (2 * k + 1) + 1 by omega, whL]
      simp [cG]
    | succ r =>
      have e2 := step (2 * k + 1) (n + 1) r
      rw [show 2 * k + 2 = (2 * k + 1) + 1 by omega, e2]
      have hlt : r + 1 < n + 1 := by rw [← hr]; exact Nat.mod_lt _ (by omega)
      have hb : (n + 1) % (r + 1) < 2 ^ k := by
        have h1 : (n + 1) % (r + 1) < r + 1 := Nat.mod_lt _ (by omega)
        have h2 : (n + 1) = (r + 1) * ((n + 1) / (r + 1)) + (n + 1) % (r + 1) := (Nat.div_add_mod _ _).symm
        have h3 : 1 ≤ (n + 1) / (r + 1) := Nat.div_pos (by omega) (by omega)
        have h4 : r + 1 ≤ (r + 1) * ((n + 1) / (r + 1)) := Nat.le_mul_of_pos_right _ h3
        rw [Nat.pow_succ] at h
        omega
      rw [gcd_loop k (r + 1) ((n + 1) % (r + 1)) hb]
      rw [Nat.gcd_rec (r + 1) (n + 1), Nat.gcd_comm]
theorem sp_divisor {m n : Nat} {M : Sto} (h : n < 2 ^ 400) : F_divisor [.p (.int m), .p (.int n)] M = .ok (.p (.int (Nat.gcd m n))) M := by
  unfold F_divisor
  rw [fnB2]
  refine lv_p ?_
  have e := gcd_loop (M := M) 400 m n h
  have e2 : sWhile cG bG [some (.p (.int m)), some (.p (.int n))] M = .ok (.nx [some (.p (.int (Nat.gcd m n))), some (.p (.int 0))]) M := by
    rw [sWhile_eq (n := 2 * 400 + 1) (by rw [e]; exact fun z => nomatch z) (by decide), e]
  show sSeq (sWhile cG bG) (sSeq (sRet (eVar 0)) sNil) [some (.p (.int m)), some (.p (.int n))] M = _
  rw [seq_ok e2]
  exact seq_rt (ret_ok rfl)
end Ev

set_option linter.all false
set_option maxRecDepth 100000
set_option maxHeartbeats 4000000
/-! Spec5: the first number whose rest lies within. -/
namespace Ev
open PySem
def optI : Option Int → P
  | none => .non
  | some m => .int m
/-- as the def goes; the outer none: not enough turns -/
def frR : Nat → Int → Int → Int → Int → Option (Option Int)
  | 0, _, _, _, _ => none
  | k + 1, factor, ring, low, high =>
    if low = 0 then some (some 0) else
    if factor % ring = 0 then some none else
    if (low + factor % ring - 1) / (factor % ring) * (factor % ring) ≤ high then some (some ((low + factor % ring - 1) / (factor % ring))) else
    match frR k ring (factor % ring) (-high % (factor % ring)) (-low % (factor % ring)) with
    | none => none
    | some none => some none
    | some (some m) => some (some ((low + ring * m + factor % ring - 1) / (factor % ring)))
theorem natAbs_of {x b : Int} (h1 : 0 ≤ x) (h2 : x < b) : x.natAbs < b.toNat := by omega
theorem big400 : (2 : Int) ^ 400 * 1000 < 2 ^ 1000 := by decide +kernel
theorem nat1000 {x : Int} (h1 : 0 ≤ x) (h2 : x < 2 ^ 400 * 1000) : x.natAbs < 2 ^ 1000 := by
  have h3 : x < 2 ^ 1000 := Int.lt_trans h2 big400
  have h4 : ((x.natAbs : Nat) : Int) < ((2 ^ 1000 : Nat) : Int) := by
    rw [Int.natAbs_of_nonneg h1]
    exact Int.lt_of_lt_of_le h3 (by norm_cast)
  exact Int.ofNat_lt.mp h4
theorem mulOk_b {i j : Int} (h1 : i.natAbs < 2 ^ 1000) (h2 : j.natAbs < 2 ^ 1000) : mulOk i j = true := by
  have : (decide (i.natAbs < 2 ^ 1000) && decide (j.natAbs < 2 ^ 1000)) = true := by rw [decide_eq_true h1, decide_eq_true h2]; rfl
  unfold mulOk
  rw [this]
  cases (decide (-(2 ^ 64) < i) && decide (i < 2 ^ 64)) <;> cases (decide (-(2 ^ 64) < j) && decide (j < 2 ^ 64)) <;> rfl
theorem oFdiv_ok {i j : Int} (h1 : 0 < j) (h2 : j.natAbs < 2 ^ 1000) : oFdiv (.int i) (.int j) = some (.p (.int (i / j))) := if_pos ⟨h1, h2⟩
theorem oIsN_i {i : Int} : oIsN (.int i) .non = some (.p (.bl false)) := rfl
theorem oIsN_n : oIsN .non .non = some (.p (.bl true)) := rfl
theorem ediv_bd {low f R : Int} (hf : 0 < f) (hl : 1 ≤ low) : 0 ≤ (low + f - 1) / f ∧ (low + f - 1) / f ≤ low := by
  refine ⟨Int.ediv_nonneg (by omega) (by omega), ?_⟩
  have : (low + f - 1) / f < low + 1 := by
    rw [Int.ediv_lt_iff_lt_mul hf]
    have : low * 1 ≤ low * f := Int.mul_le_mul_of_nonneg_left (by omega) (by omega)
    have h2 : (low + 1) * f = low * f + f := by rw [Int.add_mul]; omega
    omega
  omega
theorem fr_ok : ∀ (k : Nat) (factor ring low high : Int) (r : Option Int) (M : Sto), k ≤ 300 → 0 < ring → ring < 2 ^ 400 → 0 ≤ low → low ≤ high → high < ring → frR k factor ring low high = some r →
    F_first_rest_ k [.p (.int factor), .p (.int ring), .p (.int low), .p (.int high)] M = .ok (.p (optI r)) M ∧ ∀ m, r = some m → 0 ≤ m ∧ m ≤ k * ring
  | 0, _, _, _, _, _, _, _, _, _, _, _, _, h => by simp [frR] at h
  | k + 1, factor, ring, low, high, r, M, hk, hr, hr4, h1, h2, h3, h => by
    unfold frR at h
    rw [F_first_rest_, fnB4]
    by_cases h0 : low = 0
    · rw [if_pos h0] at h
      cases h
      refine ⟨lv_p (p := .int 0) ?_, fun m hm => by cases hm; exact ⟨by omega, Int.mul_nonneg (by omega) (by omega)⟩⟩
      unfold b_first_rest
      refine seq_rt ?_
      rw [if_t (M1 := M) (by simp [h0])]
      exact seq_rt (ret_ok rfl)
    rw [if_neg h0] at h
    have c1 : ∀ (x y : OutS), x = y → x = y := fun _ _ z => z
    generalize hf : factor % ring = f at h
    have hf0 : 0 ≤ f := by rw [← hf]; exact Int.emod_nonneg _ (by omega)
    have hfr : f < ring := by rw [← hf]; exact Int.emod_lt_of_pos _ hr
    have a1 : ∀ rest : EvS, sSeq (sIf (bOf (eBin oEq (eVar 2) (eC (.int 0)))) (sSeq (sRet (eC (.int 0))) sNil) sNil) rest [some (.p (.int factor)), some (.p (.int ring)), some (.p (.int low)), some (.p (.int high)), none] M = rest [some (.p (.int factor)), some (.p (.int ring)), some (.p (.int low)), some (.p (.int high)), none] M := fun rest =>
      seq_ok (by rw [if_f (M1 := M) (by simp [h0])]; rfl)
    have a2 : ∀ rest : EvS, sSeq (sAug 0 oMod (eVar 1)) rest [some (.p (.int factor)), some (.p (.int ring)), some (.p (.int low)), some (.p (.int high)), none] M = rest [some (.p (.int f)), some (.p (.int ring)), some (.p (.int low)), some (.p (.int high)), none] M := fun rest =>
      seq_ok (by simp [hr, hf])
    by_cases hz : f = 0
    · rw [if_pos hz] at h
      cases h
      refine ⟨lv_p (p := .non) ?_, fun m hm => by cases hm⟩
      unfold b_first_rest
      refine Eq.trans (a1 _) (Eq.trans (a2 _) (seq_rt ?_))
      rw [if_t (M1 := M) (by simp [hz])]
      exact seq_rt (ret_ok rfl)
    rw [if_neg hz] at h
    have hfp : 0 < f := by omega
    have hf4 : f.natAbs < 2 ^ 1000 := nat1000 hf0 (Int.lt_trans (Int.lt_trans hfr hr4) (by decide +kernel))
    have hr5 : ring.natAbs < 2 ^ 1000 := nat1000 (by omega) (Int.lt_trans hr4 (by decide +kernel))
    obtain ⟨q0, q1⟩ := ediv_bd (R := ring) hfp (show 1 ≤ low by omega)
    generalize hq : (low + f - 1) / f = q at h q0 q1
    have hq4 : q.natAbs < 2 ^ 1000 := nat1000 q0 (Int.lt_trans (show q < 2 ^ 400 by omega) (by decide +kernel))
    have hk1 : ((k + 1 : Nat) : Int) * ring = k * ring + ring := by rw [Int.natCast_add, Int.add_mul]; simp
    have hkr : 0 ≤ (k : Int) * ring := Int.mul_nonneg (by omega) (by omega)
    have a3 : ∀ rest : EvS, sSeq (sIf (bOf (eBin oEq (eVar 0) (eC (.int 0)))) (sSeq (sRet (eC (.non))) sNil) sNil) rest [some (.p (.int f)), some (.p (.int ring)), some (.p (.int low)), some (.p (.int high)), none] M = rest [some (.p (.int f)), some (.p (.int ring)), some (.p (.int low)), some (.p (.int high)), none] M := fun rest =>
      seq_ok (by rw [if_f (M1 := M) (by simp [hz])]; rfl)
    have a4 : ∀ rest : EvS, sSeq (sSet 4 (eBin oFdiv (eBin oSub (eBin oAdd (eVar 2) (eVar 0)) (eC (.int 1))) (eVar 0))) rest [some (.p (.int f)), some (.p (.int ring)), some (.p (.int low)), some (.p (.int high)), none] M = rest [some (.p (.int f)), some (.p (.int ring)), some (.p (.int low)), some (.p (.int high)), some (.p (.int q))] M := fun rest =>
      seq_ok (set_ok (d := .p (.int q)) (bin_ok (d1 := .p (.int (low + f - 1))) (d2 := .p (.int f)) (M1 := M) rfl rfl rfl rfl (by rw [oFdiv_ok hfp hf4, hq])))
    have a5 : bOf (eBin oLe (eBin oMul (eVar 4) (eVar 0)) (eVar 3)) [some (.p (.int f)), some (.p (.int ring)), some (.p (.int low)), some (.p (.int high)), some (.p (.int q))] M = .ok (decide (q * f ≤ high)) M := by
      rw [x_bOf, bin_ok (d1 := .p (.int (q * f))) (d2 := .p (.int high)) (M1 := M) (bin_ok (d1 := .p (.int q)) (d2 := .p (.int f)) (M1 := M) rfl rfl rfl rfl (oMul_ok (mulOk_b hq4 hf4))) rfl rfl rfl o_le_i]
      rfl
    by_cases hle : q * f ≤ high
    · rw [if_pos hle] at h
      cases h
      refine ⟨lv_p (p := .int q) ?_, fun m hm => by cases hm; exact ⟨q0, by rw [hk1]; omega⟩⟩
      unfold b_first_rest
      refine Eq.trans (a1 _) (Eq.trans (a2 _) (Eq.trans (a3 _) (Eq.trans (a4 _) (seq_rt ?_))))
      rw [if_t (M1 := M) (by rw [a5, decide_eq_true hle])]
      exact seq_rt (ret_ok rfl)
    rw [if_neg hle] at h
    have hqf : q * f < low + f := by
      have := Int.ediv_mul_le (low + f - 1) (show f ≠ 0 by omega)
      rw [hq] at this
      omega
    have hqm : (q - 1) * f = q * f - f := by rw [Int.sub_mul]; omega
    have eh : -high % f = q * f - high := by
      rw [show -high = (q * f - high) + f * (-q) by rw [Int.mul_neg, Int.mul_comm f q]; omega, Int.add_mul_emod_self_left]
      exact Int.emod_eq_of_lt (by omega) (by omega)
    have el : -low % f = q * f - low := by
      rw [show -low = (q * f - low) + f * (-q) by rw [Int.mul_neg, Int.mul_comm f q]; omega, Int.add_mul_emod_self_left]
      exact Int.emod_eq_of_lt (by omega) (by omega)
    have a6 : ∀ rest : EvS, sSeq (sIf (bOf (eBin oLe (eBin oMul (eVar 4) (eVar 0)) (eVar 3))) (sSeq (sRet (eVar 4)) sNil) sNil) rest [some (.p (.int f)), some (.p (.int ring)), some (.p (.int low)), some (.p (.int high)), some (.p (.int q))] M = rest [some (.p (.int f)), some (.p (.int ring)), some (.p (.int low)), some (.p (.int high)), some (.p (.int q))] M := fun rest =>
      seq_ok (by rw [if_f (M1 := M) (by rw [a5, decide_eq_false hle])]; rfl)
    cases hrec : frR k ring f (-high % f) (-low % f) with
    | none => rw [hrec] at h; cases h
    | some r' =>
      rw [hrec] at h
      obtain ⟨e1, e2⟩ := fr_ok k ring f (-high % f) (-low % f) r' M (by omega) hfp (Int.lt_trans hfr hr4) (by rw [eh]; omega) (by rw [eh, el]; omega) (by rw [el]; omega) hrec
      have a7 : ∀ rest : EvS, sSeq (sSet 4 (eCall 4 (F_first_rest_ k) (aCons (eVar 1) (aCons (eVar 0) (aCons (eBin oMod (eNeg (eVar 3)) (eVar 0)) (aCons (eBin oMod (eNeg (eVar 2)) (eVar 0)) aNil)))))) rest [some (.p (.int f)), some (.p (.int ring)), some (.p (.int low)), some (.p (.int high)), some (.p (.int q))] M = rest [some (.p (.int f)), some (.p (.int ring)), some (.p (.int low)), some (.p (.int high)), some (.p (optI r'))] M := fun rest =>
        seq_ok (set_ok (d := .p (optI r')) (call_ok (n := 4) (ds := [.p (.int ring), .p (.int f), .p (.int (-high % f)), .p (.int (-low % f))]) (M1 := M) (by simp [hfp]) rfl e1))
      cases r' with
      | none =>
        cases h
        refine ⟨lv_p (p := .non) ?_, fun m hm => by cases hm⟩
        unfold b_first_rest
        refine Eq.trans (a1 _) (Eq.trans (a2 _) (Eq.trans (a3 _) (Eq.trans (a4 _) (Eq.trans (a6 _) (Eq.trans (a7 _) (seq_rt (ret_ok ?_)))))))
        simp [optI, oIsN_n]
      | some m =>
        cases h
        obtain ⟨m0, m1⟩ := e2 m rfl
        have hkf : (k : Int) * f ≤ k * ring := Int.mul_le_mul_of_nonneg_left (by omega) (by omega)
        have hm4 : m.natAbs < 2 ^ 1000 := nat1000 m0 (by
          have : (k : Int) * ring ≤ 300 * ring := Int.mul_le_mul_of_nonneg_right (by omega) (by omega)
          omega)
        have hmul : mulOk ring m = true := mulOk_b hr5 hm4
        generalize ha : (low + ring * m + f - 1) / f = a
        have ha0 : 0 ≤ a := by
          rw [← ha]
          have : 0 ≤ ring * m := Int.mul_nonneg (by omega) m0
          exact Int.ediv_nonneg (by omega) (by omega)
        have ha1 : a ≤ k * ring + ring := by
          have hm' : ring * m ≤ ring * (k * f) := Int.mul_le_mul_of_nonneg_left m1 (by omega)
          have hrk : ring * (k * f) = (k * ring) * f := by rw [← Int.mul_assoc, Int.mul_comm ring]
          have : a < k * ring + ring + 1 := by
            rw [← ha, Int.ediv_lt_iff_lt_mul hfp, Int.add_mul, Int.add_mul]
            have : ring * 1 ≤ ring * f := Int.mul_le_mul_of_nonneg_left (by omega) (by omega)
            omega
          omega
        refine ⟨lv_p (p := .int a) ?_, fun m hm => by cases hm; exact ⟨ha0, by rw [hk1]; exact ha1⟩⟩
        unfold b_first_rest
        refine Eq.trans (a1 _) (Eq.trans (a2 _) (Eq.trans (a3 _) (Eq.trans (a4 _) (Eq.trans (a6 _) (Eq.trans (a7 _) (seq_rt (ret_ok ?_)))))))
        rw [x_eIf, x_bOf, bin_ok (d1 := .p (.int m)) (d2 := .p .non) (M1 := M) rfl rfl rfl rfl oIsN_i]
        show eBin oFdiv _ _ _ _ = _
        exact bin_ok (d1 := .p (.int (low + ring * m + f - 1))) (d2 := .p (.int f)) (M1 := M) (bin_ok (d1 := .p (.int (low + ring * m + f))) (d2 := .p (.int 1)) (M1 := M) (bin_ok (d1 := .p (.int (low + ring * m))) (d2 := .p (.int f)) (M1 := M)
          (bin_ok (d1 := .p (.int low)) (d2 := .p (.int (ring * m))) (M1 := M) rfl (bin_ok (d1 := .p (.int ring)) (d2 := .p (.int m)) (M1 := M) rfl rfl rfl rfl (oMul_ok hmul)) rfl rfl rfl) rfl rfl rfl rfl) rfl rfl rfl rfl) rfl rfl rfl (by rw [oFdiv_ok hfp hf4, ha])
end Ev

set_option linter.all false
set_option maxRecDepth 100000
set_option maxHeartbeats 4000000
/-! Spec6: first numbers. -/
namespace Ev
open PySem
theorem fr_mono : ∀ {k : Nat} {a b c d : Int} {r : Option Int}, frR k a b c d = some r → frR (k + 1) a b c d = some r
  | 0, _, _, _, _, _, h => by simp [frR] at h
  | k + 1, a, b, c, d, r, h => by
    rw [frR] at h ⊢
    split at h
    · rename_i h0; rw [if_pos h0]; exact h
    · rename_i h0
      rw [if_neg h0]
      split at h
      · rename_i h1; rw [if_pos h1]; exact h
      · rename_i h1
        rw [if_neg h1]
        split at h
        · rename_i h2; rw [if_pos h2]; exact h
        · rename_i h2
          rw [if_neg h2]
          cases e : frR k b (a % b) (-d % (a % b)) (-c % (a % b)) with
          | none => rw [e] at h; cases h
          | some r' =>
            rw [e] at h
            rw [fr_mono e]
            exact h
theorem fr_le {k j : Nat} {a b c d : Int} {r : Option Int} (h : frR k a b c d = some r) (hl : k ≤ j) : frR j a b c d = some r := by
  induction j with
  | zero => rw [← Nat.le_zero.mp hl]; exact h
  | succ j ih =>
    rcases Nat.lt_or_ge k (j + 1) with z | z
    · exact fr_mono (ih (by omega))
    · rw [← show k = j + 1 by omega]; exact h
/-- it ends -/
theorem fr_tot : ∀ (j : Nat) (a b c d : Int), 0 < b → b < 2 ^ j → ∃ r, frR (2 * j + 1) a b c d = some r
  | 0, a, b, c, d, h1, h2 => by simp at h2; omega
  | j + 1, a, b, c, d, h1, h2 => by
    rw [show 2 * (j + 1) + 1 = (2 * j + 1 + 1) + 1 by omega, frR]
    split
    · exact ⟨_, rfl⟩
    · split
      · exact ⟨_, rfl⟩
      · rename_i hz
        split
        · exact ⟨_, rfl⟩
        · generalize hf : a % b = f at hz ⊢
          have f0 : 0 < f := by
            have : 0 ≤ f := by rw [← hf]; exact Int.emod_nonneg _ (by omega)
            omega
          have f1 : f < b := by rw [← hf]; exact Int.emod_lt_of_pos _ h1
          have key : ∃ r, frR (2 * j + 1 + 1) b f (-d % f) (-c % f) = some r := by
            rw [frR]
            split
            · exact ⟨_, rfl⟩
            · split
              · exact ⟨_, rfl⟩
              · rename_i hz2
                split
                · exact ⟨_, rfl⟩
                · generalize hg : b % f = g at hz2 ⊢
                  have g0 : 0 < g := by
                    have : 0 ≤ g := by rw [← hg]; exact Int.emod_nonneg _ (by omega)
                    omega
                  have g1 : g < f := by rw [← hg]; exact Int.emod_lt_of_pos _ f0
                  have g2 : g < 2 ^ j := by
                    have e := Int.mul_ediv_add_emod b f
                    rw [hg] at e
                    have q1 : 1 ≤ b / f := by
                      rw [Int.le_ediv_iff_mul_le f0]; omega
                    have : f * 1 ≤ f * (b / f) := Int.mul_le_mul_of_nonneg_left q1 (by omega)
                    rw [Int.pow_succ] at h2
                    omega
                  obtain ⟨r, hr⟩ := fr_tot j f g (-(-c % f) % g) (-(-d % f) % g) g0 g2
                  rw [hr]
                  cases r <;> exact ⟨_, rfl⟩
          obtain ⟨r, hr⟩ := key
          rw [hr]
          cases r <;> exact ⟨_, rfl⟩
def frT (a b c d : Int) : Option Int := (frR 219 a b c d).getD none
theorem frT_eq {a b c d : Int} (h1 : 0 < b) (h2 : b < 2 ^ 109) : frR 219 a b c d = some (frT a b c d) := by
  obtain ⟨r, hr⟩ := fr_tot 109 a b c d h1 h2
  have : frR 219 a b c d = some r := hr
  unfold frT
  rw [this]; rfl
theorem sp_first_rest {factor ring low high : Int} {M : Sto} (hr : 0 < ring) (h4 : ring < 2 ^ 109) (h1 : 0 ≤ low) (h2 : low ≤ high) (h3 : high < ring) :
    F_first_rest [.p (.int factor), .p (.int ring), .p (.int low), .p (.int high)] M = .ok (.p (optI (frT factor ring low high))) M :=
  (fr_ok 219 factor ring low high _ M (by decide) hr (Int.lt_trans h4 (by decide +kernel)) h1 h2 h3 (frT_eq hr h4)).1
def hitS (begin step ring : Int) (arc : Int × Int) : Option Int :=
  if arc.1 ≤ begin ∧ begin ≤ arc.2 then some 0 else frT step ring ((arc.1 - begin) % ring) ((arc.1 - begin) % ring + arc.2 - arc.1)
theorem sp_first_hit {begin step ring : Int} {arc : Int × Int} {M : Sto} (hr : 0 < ring) (h4 : ring < 2 ^ 109) (hb : 0 ≤ begin) (hb2 : begin < ring) (a0 : 0 ≤ arc.1) (a1 : arc.1 ≤ arc.2) (a2 : arc.2 < ring) :
    F_first_hit [.p (.int begin), .p (.int step), .p (.int ring), .p (prP arc)] M = .ok (.p (optI (hitS begin step ring arc))) M := by
  unfold F_first_hit b_first_hit
  rw [fnB4]
  by_cases h1 : arc.1 ≤ begin
  · by_cases h2 : begin ≤ arc.2
    · have e : hitS begin step ring arc = some 0 := if_pos ⟨h1, h2⟩
      rw [e]
      simp [prP, h1, h2, optI]
    · have e : hitS begin step ring arc = frT step ring ((arc.1 - begin) % ring) ((arc.1 - begin) % ring + arc.2 - arc.1) := if_neg fun z => h2 z.2
      have el : (arc.1 - begin) % ring = arc.1 - begin + ring := by
        rw [show arc.1 - begin = (arc.1 - begin + ring) + ring * (-1) by omega, Int.add_mul_emod_self_left]
        rw [Int.emod_eq_of_lt (by omega) (by omega)]
        omega
      have f := sp_first_rest (factor := step) (M := M) hr h4 (low := (arc.1 - begin) % ring) (high := (arc.1 - begin) % ring + arc.2 - arc.1) (by omega) (by omega) (by omega)
      rw [e]
      simp [prP, h1, h2, hr, f]
  · have e : hitS begin step ring arc = frT step ring ((arc.1 - begin) % ring) ((arc.1 - begin) % ring + arc.2 - arc.1) := if_neg fun z => h1 z.1
    have el : (arc.1 - begin) % ring = arc.1 - begin := Int.emod_eq_of_lt (by omega) (by omega)
    have f := sp_first_rest (factor := step) (M := M) hr h4 (low := (arc.1 - begin) % ring) (high := (arc.1 - begin) % ring + arc.2 - arc.1) (by omega) (by omega) (by omega)
    rw [e]
    simp [prP, h1, hr, f]
end Ev

set_option linter.all false
set_option maxRecDepth 100000
set_option maxHeartbeats 4000000
/-! Spec7: first_by, first_line, ever. -/
namespace Ev
open PySem
theorem toPyL_ints : ∀ ns : List Int, toPyL (ns.map P.int) = some (ns.map PyData.int)
  | [] => by simp [toPyL]
  | n :: r => by simp [toPyL, toPy, toPyL_ints r]
theorem oNe_ints_nil (ns : List Int) : oNe (.lst (ns.map P.int)) (.lst []) = some (.p (.bl (!decide (ns = [])))) := by
  have e1 : toPy (.lst (ns.map P.int)) = some (.list (ns.map PyData.int)) := by simp [toPy, toPyL_ints]
  have e2 : toPy (.lst []) = some (.list []) := by simp [toPy, toPyL]
  have s1 : SeqAt.shaped (.list (ns.map PyData.int)) = true := by
    unfold SeqAt.shaped
    rw [PyData.canLay0, PyProof.Rows.canLayAll_ints, PyData.depth, PyProof.Rows.depthAll_ints]
    decide
  have s2 : SeqAt.shaped (.list []) = true := by decide +kernel
  have e3 : PyData.eqv (.list (ns.map PyData.int)) (.list []) = decide (ns = []) := by
    cases ns with
    | nil => simp [PyData.eqv, PyData.eqvAll]
    | cons a r => simp [PyData.eqv, PyData.eqvAll]
  have e4 : eqB (.lst (ns.map P.int)) (.lst []) = (match toPy (.lst (ns.map P.int)), toPy (.lst []) with
    | some d, some e => if SeqAt.shaped d && SeqAt.shaped e then some (PyData.eqv d e) else none
    | _, _ => none) := rfl
  unfold oNe
  rw [e4, e1, e2]
  dsimp only
  rw [s1, s2, e3]
  rfl
theorem rows_bd {col : Str} : ∀ {rb : List (Str × Int)} {b : Int} {x : Int × Int}, (∀ y ∈ rb, 1 ≤ y.2) → x ∈ rowsS col rb b → b ≤ x.1 ∧ 1 ≤ x.2 ∧ x.1 + x.2 ≤ b + lenS rb
  | [], _, _, _, h => by simp [rowsS] at h
  | (c, n) :: r, b, x, hy, h => by
    have h1 := hy (c, n) List.mem_cons_self
    have hl : lenS ((c, n) :: r) = n + lenS r := by simp [lenS]
    have hr : 0 ≤ lenS r := by
      by_cases z : 1 ≤ r.length
      · have := lenS_pos (rb := r) (fun y hy' => hy y (List.mem_cons_of_mem _ hy')) z
        omega
      · have : r = [] := List.eq_nil_of_length_eq_zero (by omega)
        subst this; simp [lenS]
    have ih : ∀ {x}, x ∈ rowsS col r (b + n) → b + n ≤ x.1 ∧ 1 ≤ x.2 ∧ x.1 + x.2 ≤ b + n + lenS r := fun hx => rows_bd (fun y hy' => hy y (List.mem_cons_of_mem _ hy')) hx
    unfold rowsS at h
    dsimp only at h1
    split at h
    · rcases List.mem_cons.mp h with z | z
      · subst z; dsimp only; omega
      · have := ih z; omega
    · have := ih h; omega
theorem arcs_bd {rb : List (Str × Int)} {st : List Int} {col : Str} (h : MOk rb st) {a : Int × Int} (ha : a ∈ arcsS rb col) : 0 ≤ a.1 ∧ a.1 ≤ a.2 ∧ a.2 < 2 * lenS rb := by
  have hy : ∀ y ∈ rb, 1 ≤ y.2 := fun y hy => (h.c y hy).2.1
  unfold arcsS at ha
  rcases List.mem_append.mp ha with z | z
  · obtain ⟨x, hx, rfl⟩ := List.mem_map.mp z
    have := rows_bd hy hx
    have := h.pos
    dsimp only; omega
  · obtain ⟨x, hx, rfl⟩ := List.mem_map.mp z
    have := rows_bd hy hx
    have := h.pos
    dsimp only; omega
theorem lenS_le : ∀ {rb : List (Str × Int)} {k : Int}, (∀ y ∈ rb, y.2 ≤ k) → 0 ≤ k → lenS rb ≤ rb.length * k
  | [], _, _, hk => by simp [lenS]
  | (c, n) :: r, k, h, hk => by
    have h1 := h (c, n) List.mem_cons_self
    have h2 := lenS_le (rb := r) (fun y hy => h y (List.mem_cons_of_mem _ hy)) hk
    have e : lenS ((c, n) :: r) = n + lenS r := by simp [lenS]
    rw [e, List.length_cons, Int.natCast_add, Int.add_mul]
    dsimp only at h1
    simp
    omega
theorem MOk.ring {rb : List (Str × Int)} {st : List Int} (h : MOk rb st) : 0 < 2 * lenS rb ∧ 2 * lenS rb < 2 ^ 109 := by
  have h1 := h.pos
  have h2 := lenS_le (fun y hy => (h.c y hy).2.2) (show (0 : Int) ≤ GRT by decide)
  have h3 : (rb.length : Int) * GRT ≤ 6 * GRT := Int.mul_le_mul_of_nonneg_right (by have := h.l2; omega) (by decide)
  have h4 : 2 * (6 * GRT) < 2 ^ 109 := by decide +kernel
  constructor
  · omega
  · omega
theorem stand_bd {rb : List (Str × Int)} {st : List Int} {b n : Int} {l : Str} {i : Nat} (h : MOk rb st) : 0 ≤ standS rb st b l n i ∧ standS rb st b l n i < 2 * lenS rb :=
  ⟨Int.emod_nonneg _ (by have := h.ring; omega), Int.emod_lt_of_pos _ h.ring.1⟩
def byS (rb : List (Str × Int)) (st : List Int) (b : Int) (l : Str) (i : Nat) (col : Str) : Option Int :=
  if (arcsS rb col).filterMap (hitS (standS rb st b l 0 i) (stepsS st (cs l)) (2 * lenS rb)) = [] then none else some (minL ((arcsS rb col).filterMap (hitS (standS rb st b l 0 i) (stepsS st (cs l)) (2 * lenS rb))))
def unPr : P → Int × Int
  | .tup [.int a, .int b] => (a, b)
  | _ => (0, 0)
def noneP : P → Option P
  | .non => none
  | p => some p
theorem arcs_len {rb : List (Str × Int)} {st : List Int} {col : Str} (h : MOk rb st) : (arcsS rb col).length ≤ 12 := by
  have := rows_len col rb 0
  have := h.l2
  unfold arcsS
  simp
  omega
theorem sp_first_by {rb : List (Str × Int)} {st : List Int} {b : Int} {l col : Str} {i : Nat} {M : Sto} (h : MOk rb st) (hl : (cs l).length ≤ 1000) :
    F_first_by [.p (machP rb st), .p (.int b), .p (.str l), .p (.int (i : Int)), .p (.str col)] M = .ok (.p (optI (byS rb st b l i col))) M := by
  have hll : (cs l).length ≤ lim := Nat.le_trans hl lim_big
  have r2 : 2 ≤ lim := Nat.le_trans (by decide) lim_big
  have al := arcs_len (col := col) h
  have hlim := lim_big
  obtain ⟨rg1, rg2⟩ := h.ring
  generalize hs : standS rb st b l 0 i = s0
  have hsb := stand_bd (b := b) (n := 0) (l := l) (i := i) h
  rw [hs] at hsb
  generalize hstep : stepsS st (cs l) = sp0
  have e0 : sp0 = stepsS st (cs l) := hstep.symm
  unfold F_first_by
  rw [fnB5]
  refine lv_p ?_
  unfold b_first_by
  rw [seq_ok (unp_ok (M1 := M) (p := .tup [.int (2 * lenS rb), .int sp0]) (by simp [sp_length_by h.ll, sp_steps_by h hll, hstep, r2]) (by simp; rfl))]
  rw [seq_ok (set_ok (d := .p (.int s0)) (M1 := M) (call_ok (n := 5) (ds := [.p (machP rb st), .p (.int b), .p (.str l), .p (.int 0), .p (.int (i : Int))]) (M1 := M) (by simp) rfl (by rw [sp_standing_by h hl, hs])))]
  have e3 : ∀ σ : Fr, σ[0]? = some (some (.p (machP rb st))) → σ[4]? = some (some (.p (.str col))) → σ[5]? = some (some (.p (.int s0))) → σ[8]? = some (some (.p (.int sp0))) → σ[7]? = some (some (.p (.int (2 * lenS rb)))) → 9 < σ.length →
      eLc (.nm 9) [9] (iOf (eCall 2 F_arcs_of (aCons (eVar 0) (aCons (eVar 4) aNil)))) bYes (eCall 4 F_first_hit (aCons (eVar 5) (aCons (eVar 8) (aCons (eVar 7) (aCons (eVar 9) aNil))))) σ M = .ok (.nw ((arcsS rb col).map fun a => optI (hitS s0 sp0 (2 * lenS rb) a))) M := by
    intro σ q0 q4 q5 q8 q7 q9
    have hq : (arcsS rb col).map (fun a => optI (hitS s0 sp0 (2 * lenS rb) a)) = ((arcsS rb col).map prP).map (fun p => optI (hitS s0 sp0 (2 * lenS rb) (unPr p))) := by
      rw [List.map_map]; rfl
    rw [hq]
    refine eLc_map _ (by simp [q0, q4, sp_arcs_of h]) rfl (fun p hp => ?_) (by simp; omega)
    obtain ⟨a, ha, rfl⟩ := List.mem_map.mp hp
    obtain ⟨b1, b2, b3⟩ := arcs_bd h ha
    refine ⟨_, x_nm, fun M' => ⟨.p (optI (hitS s0 sp0 (2 * lenS rb) a)), ?_, rfl⟩⟩
    refine call_ok (n := 4) (ds := [.p (.int s0), .p (.int sp0), .p (.int (2 * lenS rb)), .p (prP a)]) (M1 := M') (by simp [wipeF, q5, q8, q7, q9]) rfl ?_
    exact sp_first_hit rg1 rg2 hsb.1 hsb.2 b1 b2 b3
  rw [seq_ok (set_ok (e3 _ (by simp) (by simp) (by simp) (by simp) (by simp) (by simp)))]
  generalize hH : (arcsS rb col).map (hitS s0 sp0 (2 * lenS rb)) = hs'
  have hHl : hs'.length ≤ lim := by rw [← hH, List.length_map]; omega
  have hm : (arcsS rb col).map (fun a => optI (hitS s0 sp0 (2 * lenS rb) a)) = hs'.map optI := by rw [← hH, List.map_map]; rfl
  have e4 : ∀ σ : Fr, σ[6]? = some (some (.p (.lst (hs'.map optI)))) → 10 < σ.length →
      eLc (.nm 10) [10] (iOf (eVar 6)) (bOf (eBin oNotN (eVar 10) (eC (.non)))) (eVar 10) σ M = .ok (.nw ((hs'.filterMap id).map P.int)) M := by
    intro σ q6 q10
    have hq : (hs'.filterMap id).map P.int = (hs'.map optI).filterMap noneP := by
      rw [List.filterMap_map, List.map_filterMap]
      congr 1
      funext x
      cases x <;> rfl
    rw [hq]
    refine eLc_pure noneP (by simp [q6]) rfl (fun p hp => ?_) (by simpa using hHl)
    obtain ⟨a, ha, rfl⟩ := List.mem_map.mp hp
    refine ⟨_, x_nm, fun M' => ?_⟩
    cases a with
    | none =>
      refine ⟨?_, fun q hq => by cases hq⟩
      simp [wipeF, q10, optI]
      rfl
    | some a =>
      refine ⟨?_, fun q hq => ?_⟩
      · simp [wipeF, q10, optI]
        rfl
      · cases hq
        exact ⟨.p (.int a), by simp [wipeF, q10, optI], rfl⟩
  rw [x_valn, hm]
  rw [seq_ok (set_ok (e4 _ (by simp) (by simp)))]
  have hby : byS rb st b l i col = if hs'.filterMap id = [] then none else some (minL (hs'.filterMap id)) := by
    unfold byS
    rw [hs, hstep]
    have : (arcsS rb col).filterMap (hitS s0 sp0 (2 * lenS rb)) = hs'.filterMap id := by rw [← hH, List.filterMap_map]; rfl
    rw [this]
  rw [hby]
  refine seq_rt (ret_ok ?_)
  by_cases hz : hs'.filterMap id = []
  · rw [if_pos hz, x_eIf, x_bOf, bin_ok (d1 := .p (.lst ((hs'.filterMap id).map P.int))) (d2 := .nw []) (M1 := M) (M2 := M) (by simp) (by simp) rfl rfl (oNe_ints_nil _), hz]
    rfl
  · rw [if_neg hz, x_eIf, x_bOf, bin_ok (d1 := .p (.lst ((hs'.filterMap id).map P.int))) (d2 := .nw []) (M1 := M) (M2 := M) (by simp) (by simp) rfl rfl (oNe_ints_nil _), decide_eq_false hz]
    simp only [Out.bind, Bool.not_false, if_true]
    refine callB_ok (ds := [.p (.lst ((hs'.filterMap id).map P.int))]) (ps := [.lst ((hs'.filterMap id).map P.int)]) (by simp) rfl ?_
    simp only [cMin, intsOf_map]
    rw [if_neg hz]; rfl
theorem sp_first_line {rb : List (Str × Int)} {st : List Int} {b : Int} {l col : Str} {i : Nat} {M : Sto} (h : MOk rb st) (hb : 0 ≤ b) (hb2 : b ≤ 2 * lenS rb - 1) (hl : LOk st l) (hi : i < (cs l).length) (hc : isLet col "bgr" = true) :
    F_first_line [.p (machP rb st), .p (.int b), .p (.str l), .p (.int (i : Int)), .p (.str col)] M = .ok (.p (optI (byS rb st b l i col))) M := by
  have h40 := hl.le
  unfold F_first_line
  rw [fnB5]
  refine lv_p ?_
  unfold b_first_line
  rw [seq_ok (exp_ok (d := .p .non) (M1 := M) (by simp [sp_need_all h hb hb2 hl]))]
  rw [seq_ok (exp_ok (d := .p .non) (M1 := M) (by simp [sp_need_index hl.ll (show 0 ≤ (i : Int) by omega) (show (i : Int) ≤ (cs l).length - 1 by omega)]))]
  rw [seq_ok (exp_ok (d := .p .non) (M1 := M) (by simp [sp_need_colour hc]))]
  refine seq_rt (ret_ok (call_ok (n := 5) (ds := [.p (machP rb st), .p (.int b), .p (.str l), .p (.int (i : Int)), .p (.str col)]) (M1 := M) (by simp) rfl ?_))
  exact sp_first_by h (by omega)
def everS (rb : List (Str × Int)) (st : List Int) (b : Int) (l : Str) (i : Nat) : List Nat := [98, 103, 114].filter fun c => (byS rb st b l i (sg c)).isSome
theorem chars_bgr : chars "bgr" = [98, 103, 114].map fun c => P.str (sg c) := by rfl
theorem filter_fm {α β : Type} {p : α → Bool} {f : α → β} {g : β → Option β} (h : ∀ c, g (f c) = if p c = true then some (f c) else none) : ∀ {L : List α}, (L.filter p).map f = (L.map f).filterMap g
  | [] => rfl
  | a :: r => by
    have ih := filter_fm h (L := r)
    rw [List.filter_cons, List.map_cons, List.filterMap_cons, h]
    cases p a with
    | true => simp [ih]
    | false => simp [ih]
theorem sp_ever {rb : List (Str × Int)} {st : List Int} {b : Int} {l : Str} {i : Nat} {M : Sto} (h : MOk rb st) (hb : 0 ≤ b) (hb2 : b ≤ 2 * lenS rb - 1) (hl : LOk st l) (hi : i < (cs l).length) :
    F_ever [.p (machP rb st), .p (.int b), .p (.str l), .p (.int (i : Int))] M = .ok (.p (.str ⟨(everS rb st b l i).toArray⟩)) M := by
  have h40 := hl.le
  have hlim := lim_big
  unfold F_ever
  rw [fnB4]
  refine lv_p ?_
  unfold b_ever
  rw [seq_ok (exp_ok (d := .p .non) (M1 := M) (by simp [sp_need_all h hb hb2 hl]))]
  rw [seq_ok (exp_ok (d := .p .non) (M1 := M) (by simp [sp_need_index hl.ll (show 0 ≤ (i : Int) by omega) (show (i : Int) ≤ (cs l).length - 1 by omega)]))]
  have e1 : ∀ σ : Fr, σ[0]? = some (some (.p (machP rb st))) → σ[1]? = some (some (.p (.int b))) → σ[2]? = some (some (.p (.str l))) → σ[3]? = some (some (.p (.int (i : Int)))) → 5 < σ.length →
      eLc (.nm 5) [5] (iOf (eC (.str "bgr"))) (bOf (eBin oNotN (eCall 5 F_first_by (aCons (eVar 0) (aCons (eVar 1) (aCons (eVar 2) (aCons (eVar 3) (aCons (eVar 5) aNil)))))) (eC (.non)))) (eVar 5) σ M = .ok (.nw ((everS rb st b l i).map fun c => P.str (sg c))) M := by
    intro σ q0 q1 q2 q3 q5
    have hq : (everS rb st b l i).map (fun c => P.str (sg c)) = (chars "bgr").filterMap (fun p => match p with | .str s => if (byS rb st b l i s).isSome then some p else none | _ => none) := by
      rw [chars_bgr, everS]
      exact filter_fm (p := fun c => (byS rb st b l i (sg c)).isSome) (f := fun c => P.str (sg c)) (g := fun p => match p with | .str s => if (byS rb st b l i s).isSome then some p else none | _ => none) (fun c => rfl)
    rw [hq]
    refine eLc_pure _ (show iOf (eC (.str "bgr")) σ M = .ok (chars "bgr") M from rfl) rfl (fun p hp => ?_) (by rw [chars_bgr, List.length_map]; exact Nat.le_trans (by decide) lim_big)
    rw [chars_bgr] at hp
    obtain ⟨c, hc, rfl⟩ := List.mem_map.mp hp
    refine ⟨_, x_nm, fun M' => ?_⟩
    have e2 : eCall 5 F_first_by (aCons (eVar 0) (aCons (eVar 1) (aCons (eVar 2) (aCons (eVar 3) (aCons (eVar 5) aNil))))) ((wipeF σ [5]).set 5 (some (.p (.str (sg c))))) M' = .ok (.p (optI (byS rb st b l i (sg c)))) M' :=
      call_ok (n := 5) (ds := [.p (machP rb st), .p (.int b), .p (.str l), .p (.int (i : Int)), .p (.str (sg c))]) (M1 := M') (by simp [wipeF, q0, q1, q2, q3, q5]) rfl (sp_first_by h (by omega))
    cases hby : byS rb st b l i (sg c) with
    | none =>
      rw [hby] at e2
      refine ⟨?_, fun q hq => by simp [hby] at hq⟩
      rw [x_bOf, bin_ok (d2 := .p .non) (M2 := M') e2 rfl rfl rfl rfl]
      simp [hby, optI, P.isN]
    | some m =>
      rw [hby] at e2
      refine ⟨?_, fun q hq => ?_⟩
      · rw [x_bOf, bin_ok (d2 := .p .non) (M2 := M') e2 rfl rfl rfl rfl]
        simp [hby, optI, P.isN]
      · simp [hby] at hq
        subst hq
        exact ⟨.p (.str (sg c)), by simp [wipeF, q5], rfl⟩
  rw [seq_ok (set_ok (e1 _ (by simp) (by simp) (by simp) (by simp) (by simp)))]
  refine seq_rt (ret_ok ?_)
  have hj : mJoin (.str "") [.lst ((everS rb st b l i).map fun c => P.str (sg c))] = some (.p (.str ⟨(everS rb st b l i).toArray⟩)) := by
    have hm : (everS rb st b l i) = [] ∨ (everS rb st b l i) = [98] ∨ (everS rb st b l i) = [103] ∨ (everS rb st b l i) = [114] ∨ (everS rb st b l i) = [98, 103] ∨ (everS rb st b l i) = [98, 114] ∨ (everS rb st b l i) = [103, 114] ∨ (everS rb st b l i) = [98, 103, 114] := by
      unfold everS
      simp only [List.filter_cons, List.filter_nil]
      (repeat' split) <;> simp
    rcases hm with e | e | e | e | e | e | e | e <;> rw [e] <;> rfl
  simp only [eMt]
  simp [isTy, hj]
end Ev

set_option linter.all false
set_option maxRecDepth 100000
set_option maxHeartbeats 4000000
/-! Spec8: wishes, period. -/
namespace Ev
open PySem
theorem sp_is_wish {l w al : Str} {M : Sto} (hl : (cs l).length ≤ lim) (h1 : (cs w).length = (cs l).length) (h2 : ∀ c ∈ cs w, c ∈ cs al) : F_is_wish [.p (.str l), .p (.str w), .p (.str al)] M = .ok (.p (.bl true)) M := by
  unfold F_is_wish b_is_wish
  rw [fnB3]
  have e1 : ∀ σ : Fr, σ[1]? = some (some (.p (.str w))) → σ[2]? = some (some (.p (.str al))) → 3 < σ.length → ∀ M, eLc (.nm 3) [3] (iOf (eVar 1)) bYes (eBin oIn (eVar 3) (eVar 2)) σ M = .ok (.nw (List.replicate (cs w).length (.bl true))) M := by
    intro σ q1 q2 q3 M
    rw [show List.replicate (cs w).length (P.bl true) = (chars w).map (fun _ => P.bl true) by rw [List.map_const']; simp [chars]]
    refine eLc_map (fun _ => .bl true) (by simp [q1]) rfl (fun p hp => ?_) (by rw [← h1] at hl; simpa [chars] using hl)
    obtain ⟨c, hc, rfl⟩ := List.mem_map.mp hp
    refine ⟨_, x_nm, fun M' => ⟨.p (.bl true), ?_, rfl⟩⟩
    have k := oIn_s (c := c) (l := al)
    rw [decide_eq_true (h2 c hc)] at k
    simp [wipeF, q2, q3, k]
  have e2 := len_ok hl
  have e3 := len_ok (l := w) (by rw [h1]; exact hl)
  rw [h1] at e3
  simp only [Array.length_toList] at e1 e2 e3
  simp [e1, e2, e3, a1n]
structure WOk (l w : Str) : Prop where
  len : (cs w).length = (cs l).length
  mem : ∀ c ∈ cs w, c ∈ [98, 103, 114]
theorem sp_need_wish {l w : Str} {M : Sto} (hl : (cs l).length ≤ lim) (h : WOk l w) : F_need_wish [.p (.str l), .p (.str w)] M = .ok (.p .non) M := by
  unfold F_need_wish b_need_wish
  rw [fnB2]
  have e := sp_is_wish (al := "bgr") (M := M) hl h.len h.mem
  simp [e]
def periodS (rb : List (Str × Int)) (st : List Int) (l : Str) : Int := 2 * lenS rb / (Nat.gcd (2 * lenS rb).toNat ((stepsS st (cs l)) % (2 * lenS rb)).toNat : Nat)
theorem p109 : (2 : Int) ^ 109 ≤ 2 ^ 400 := by decide +kernel
theorem toNat_lt {x : Int} {n : Nat} (h : x < 2 ^ n) : x.toNat < 2 ^ n := by
  have : ((2 : Int) ^ n) = ((2 ^ n : Nat) : Int) := by rw [Int.natCast_pow]; rfl
  rw [this] at h
  have : 0 < 2 ^ n := Nat.two_pow_pos n
  omega
theorem gcd_pos_i {x : Int} {n : Nat} (h : 0 < x) : 0 < ((Nat.gcd x.toNat n : Nat) : Int) := by
  have : 0 < x.toNat := by omega
  have := Nat.gcd_pos_of_pos_left n this
  omega
theorem gcd_le_i {x : Int} {n : Nat} (h : 0 < x) : ((Nat.gcd x.toNat n : Nat) : Int) ≤ x := by
  have h0 : 0 < x.toNat := by omega
  have := Nat.gcd_le_left n h0
  omega
theorem lt1000 {x : Int} (h1 : 0 ≤ x) (h2 : x < 2 ^ 109) : x.natAbs < 2 ^ 1000 := nat1000 h1 (Int.lt_of_lt_of_le h2 (by decide +kernel))
theorem sp_div_ring {R s : Int} {M : Sto} (h1 : 0 < R) (h2 : R < 2 ^ 109) : F_divisor [.p (.int R), .p (.int (s % R))] M = .ok (.p (.int (Nat.gcd R.toNat (s % R).toNat : Nat))) M := by
  have a1 := Int.emod_nonneg s (Int.ne_of_gt h1)
  have a2 := Int.emod_lt_of_pos s h1
  have e := sp_divisor (m := R.toNat) (n := (s % R).toNat) (M := M) (toNat_lt (Int.lt_of_lt_of_le (Int.lt_trans a2 h2) p109))
  rw [Int.toNat_of_nonneg (Int.le_of_lt h1), Int.toNat_of_nonneg a1] at e
  exact e
theorem sp_period {rb : List (Str × Int)} {st : List Int} {l : Str} {M : Sto} (h : MOk rb st) (hl : LOk st l) : F_period [.p (machP rb st), .p (.str l)] M = .ok (.p (.int (periodS rb st l))) M := by
  obtain ⟨rg1, rg2⟩ := h.ring
  unfold F_period
  rw [fnB2]
  refine lv_p ?_
  unfold b_period
  rw [seq_ok (exp_ok (d := .p .non) (M1 := M) (by simp [sp_need_machine h]))]
  rw [seq_ok (exp_ok (d := .p .non) (M1 := M) (by simp [sp_need_line h hl]))]
  rw [seq_ok (set_ok (d := .p (.int (2 * lenS rb))) (M1 := M) (by simp [sp_length_by h.ll]))]
  refine seq_rt (ret_ok (bin_ok (d1 := .p (.int (2 * lenS rb))) (d2 := .p (.int (Nat.gcd (2 * lenS rb).toNat ((stepsS st (cs l)) % (2 * lenS rb)).toNat : Nat))) (M1 := M) (by simp) ?_ rfl rfl ?_))
  · refine call_ok (n := 2) (ds := [.p (.int (2 * lenS rb)), .p (.int ((stepsS st (cs l)) % (2 * lenS rb)))]) (M1 := M) ?_ rfl (sp_div_ring rg1 rg2)
    refine cons_ok (d := .p (.int (2 * lenS rb))) (M1 := M) (by simp) (cons_ok (d := .p (.int ((stepsS st (cs l)) % (2 * lenS rb)))) (M1 := M) ?_ nil_ok)
    exact bin_ok (d1 := .p (.int (stepsS st (cs l)))) (d2 := .p (.int (2 * lenS rb))) (M1 := M) (by simp [sp_steps_by h hl.ll]) (by simp) rfl rfl (o_mod_i rg1)
  · exact oFdiv_ok (gcd_pos_i rg1) (lt1000 (Int.le_of_lt (gcd_pos_i rg1)) (Int.lt_of_le_of_lt (gcd_le_i rg1) rg2))
end Ev

set_option linter.all false
set_option maxRecDepth 100000
set_option maxHeartbeats 4000000
/-! Spec9: times_of, hits, wear. -/
namespace Ev
open PySem
def cT : EvB := bOf (eBin oGt (eVar 4) (eC (.int 0)))
def bT : EvS := (sSeq (sSet 7 (eBin oFdiv (eVar 3) (eVar 4)))
    (sSeq (sUnp (.tu [(.nm 3), (.nm 4), (.nm 5), (.nm 6)]) (eTup (aCons (eVar 4) (aCons (eBin oSub (eVar 3) (eBin oMul (eVar 7) (eVar 4))) (aCons (eVar 6) (aCons (eBin oSub (eVar 5) (eBin oMul (eVar 7) (eVar 6))) aNil))))))
    sNil))
theorem four_lim : 4 ≤ lim := Nat.le_trans (by decide) lim_big
theorem eg_step {j : Nat} {a b c x : Option D} {r0 r1 u0 u1 : Int} {M : Sto} (h : 0 < r1) (hq : r1.natAbs < 2 ^ 1000) (m1 : mulOk (r0 / r1) r1 = true) (m2 : mulOk (r0 / r1) u1 = true) :
    whL cT bT (j + 1) [a, b, c, some (.p (.int r0)), some (.p (.int r1)), some (.p (.int u0)), some (.p (.int u1)), x] M =
      whL cT bT j [a, b, c, some (.p (.int r1)), some (.p (.int (r0 - r0 / r1 * r1))), some (.p (.int u1)), some (.p (.int (u0 - r0 / r1 * u1))), some (.p (.int (r0 / r1)))] M := by
  have f4 := four_lim
  rw [whL]
  have e1 : ∀ (x : Option D), cT [a, b, c, some (.p (.int r0)), some (.p (.int r1)), some (.p (.int u0)), some (.p (.int u1)), x] M = .ok true M := by
    intro x
    simp [cT, h]
  rw [e1]
  have e2 : bT [a, b, c, some (.p (.int r0)), some (.p (.int r1)), some (.p (.int u0)), some (.p (.int u1)), x] M = .ok (.nx [a, b, c, some (.p (.int r1)), some (.p (.int (r0 - r0 / r1 * r1))), some (.p (.int u1)), some (.p (.int (u0 - r0 / r1 * u1))), some (.p (.int (r0 / r1)))]) M := by
    unfold bT
    rw [seq_ok (set_ok (d := .p (.int (r0 / r1))) (M1 := M) (bin_ok (d1 := .p (.int r0)) (d2 := .p (.int r1)) (M1 := M) rfl rfl rfl rfl (oFdiv_ok h hq)))]
    refine Eq.trans (seq_ok (unp_ok (M1 := M) (p := .tup [.int r1, .int (r0 - r0 / r1 * r1), .int u1, .int (u0 - r0 / r1 * u1)]) ?_ (by simp; rfl))) ?_
    · simp [oMul_ok m1, oMul_ok m2, f4]
    · rfl
  dsimp only
  rw [e2]
theorem eg_end {j : Nat} {a b c x : Option D} {r0 u0 u1 : Int} {M : Sto} :
    whL cT bT (j + 1) [a, b, c, some (.p (.int r0)), some (.p (.int 0)), some (.p (.int u0)), some (.p (.int u1)), x] M = .ok (.nx [a, b, c, some (.p (.int r0)), some (.p (.int 0)), some (.p (.int u0)), some (.p (.int u1)), x]) M := by
  rw [whL]
  simp [cT]
structure EgI (ring step : Int) (r0 r1 : Nat) (u0 u1 : Int) : Prop where
  p0 : 0 < r0
  l0 : (r0 : Int) ≤ ring
  l1 : (r1 : Int) ≤ ring
  a : ring ∣ u0 * step - r0
  b : ring ∣ u1 * step - r1
  c : u0.natAbs * r1 + u1.natAbs * r0 ≤ ring.toNat
  d : u0.natAbs ≤ ring.toNat
theorem EgI.next {ring step : Int} {r0 r1 : Nat} {u0 u1 : Int} (h : EgI ring step r0 r1 u0 u1) (h1 : 0 < r1) : EgI ring step r1 (r0 % r1) u1 (u0 - (r0 / r1 : Nat) * u1) := by
  have e : (r0 : Int) = r1 * (r0 / r1 : Nat) + (r0 % r1 : Nat) := by rw [← Int.natCast_mul, ← Int.natCast_add, Nat.div_add_mod]
  have hlt := Nat.mod_lt r0 h1
  refine ⟨h1, h.l1, by have := h.l1; omega, h.b, ?_, ?_, ?_⟩
  · have k : (u0 - (r0 / r1 : Nat) * u1) * step - (r0 % r1 : Nat) = (u0 * step - r0) - (r0 / r1 : Nat) * (u1 * step - r1) := by
      rw [e]
      generalize ((r0 / r1 : Nat) : Int) = q
      generalize ((r0 % r1 : Nat) : Int) = m
      generalize (r1 : Int) = r
      rw [Int.sub_mul, Int.mul_sub, Int.mul_assoc, Int.mul_comm r q]
      omega
    rw [k]
    exact Int.dvd_sub h.a (Int.dvd_trans h.b (Int.dvd_mul_left _ _))
  · have k1 : (u0 - (r0 / r1 : Nat) * u1).natAbs ≤ u0.natAbs + (r0 / r1) * u1.natAbs := by
      have := Int.natAbs_sub_le u0 ((r0 / r1 : Nat) * u1)
      rw [Int.natAbs_mul] at this
      exact this
    have k2 : (u0 - (r0 / r1 : Nat) * u1).natAbs * r1 ≤ (u0.natAbs + (r0 / r1) * u1.natAbs) * r1 := Nat.mul_le_mul_right _ k1
    have k3 : u1.natAbs * r0 = u1.natAbs * (r0 % r1) + (r0 / r1) * u1.natAbs * r1 := by
      conv => lhs; rw [← Nat.div_add_mod r0 r1, Nat.mul_add]
      rw [Nat.add_comm, Nat.mul_comm (r0 / r1), Nat.mul_assoc, Nat.mul_comm r1]
    have := h.c
    rw [Nat.add_mul] at k2
    omega
  · have h2 := h.c
    have : u1.natAbs * 1 ≤ u1.natAbs * r0 := Nat.mul_le_mul_left _ h.p0
    omega
theorem eg_step' {j : Nat} {a b c x : Option D} {ring step : Int} {r0 r1 : Nat} {u0 u1 : Int} {M : Sto} (hR : ring < 2 ^ 109) (h : EgI ring step r0 r1 u0 u1) (h1 : 0 < r1) :
    ∃ x', whL cT bT (j + 1) [a, b, c, some (.p (.int r0)), some (.p (.int r1)), some (.p (.int u0)), some (.p (.int u1)), x] M =
      whL cT bT j [a, b, c, some (.p (.int r1)), some (.p (.int (r0 % r1 : Nat))), some (.p (.int u1)), some (.p (.int (u0 - (r0 / r1 : Nat) * u1))), x'] M := by
  have hq0 : r0 / r1 ≤ r0 := Nat.div_le_self _ _
  have hu : u1.natAbs ≤ ring.toNat := by
    have := h.c
    have : u1.natAbs * 1 ≤ u1.natAbs * r0 := Nat.mul_le_mul_left _ h.p0
    omega
  have hR' : ring.toNat < 2 ^ 1000 := Nat.lt_of_lt_of_le (toNat_lt hR) (Nat.pow_le_pow_right (by decide) (by decide))
  have l0 := h.l0
  have l1 := h.l1
  have hq : ((r0 : Int) / r1).natAbs < 2 ^ 1000 := by
    rw [← Int.natCast_ediv, Int.natAbs_natCast]
    omega
  have h1' : ((r1 : Int)).natAbs < 2 ^ 1000 := by omega
  have e := eg_step (j := j) (a := a) (b := b) (c := c) (x := x) (r0 := r0) (r1 := r1) (u0 := u0) (u1 := u1) (M := M) (by omega) h1' (mulOk_b hq h1') (mulOk_b hq (by omega))
  rw [← Int.natCast_ediv] at e
  have e3 : (r0 : Int) - ((r0 / r1 : Nat) : Int) * r1 = (r0 % r1 : Nat) := by
    have : (r0 : Int) = r1 * (r0 / r1 : Nat) + (r0 % r1 : Nat) := by rw [← Int.natCast_mul, ← Int.natCast_add, Nat.div_add_mod]
    rw [Int.mul_comm (r1 : Int)] at this
    omega
  rw [e3] at e
  exact ⟨_, e⟩
theorem eg_loop {a b c : Option D} {ring step : Int} {M : Sto} (hR : ring < 2 ^ 109) : ∀ (k r0 r1 : Nat) (u0 u1 : Int) (x : Option D), r1 < 2 ^ k → EgI ring step r0 r1 u0 u1 →
    ∃ u x6 x7, whL cT bT (2 * k + 1) [a, b, c, some (.p (.int r0)), some (.p (.int r1)), some (.p (.int u0)), some (.p (.int u1)), x] M = .ok (.nx [a, b, c, some (.p (.int (Nat.gcd r0 r1))), some (.p (.int 0)), some (.p (.int u)), x6, x7]) M ∧ ring ∣ u * step - Nat.gcd r0 r1 ∧ u.natAbs ≤ ring.toNat
  | k, r0, 0, u0, u1, x, _, h => ⟨u0, _, _, by rw [Nat.gcd_zero_right]; exact eg_end, by rw [Nat.gcd_zero_right]; exact h.a, h.d⟩
  | 0, r0, r1 + 1, u0, u1, x, hk, _ => by simp at hk
  | k + 1, r0, r1 + 1, u0, u1, x, hk, h => by
    obtain ⟨x', e1⟩ := eg_step' (j := 2 * k + 2) (a := a) (b := b) (c := c) (x := x) (M := M) hR h (by omega)
    have n1 := h.next (by omega)
    have g1 : Nat.gcd r0 (r1 + 1) = Nat.gcd (r1 + 1) (r0 % (r1 + 1)) := by rw [Nat.gcd_comm, Nat.gcd_rec, Nat.gcd_comm]
    rw [show 2 * (k + 1) + 1 = (2 * k + 2) + 1 by omega, e1, g1]
    cases hr : r0 % (r1 + 1) with
    | zero =>
      rw [hr] at n1
      rw [Nat.gcd_zero_right]
      exact ⟨_, _, _, eg_end, n1.a, n1.d⟩
    | succ r =>
      rw [hr] at n1
      obtain ⟨x'', e2⟩ := eg_step' (j := 2 * k + 1) (a := a) (b := b) (c := c) (x := x') (M := M) hR n1 (by omega)
      have n2 := n1.next (by omega)
      have hlt : r + 1 < r1 + 1 := by rw [← hr]; exact Nat.mod_lt _ (by omega)
      have hb : (r1 + 1) % (r + 1) < 2 ^ k := by
        have h1 : (r1 + 1) % (r + 1) < r + 1 := Nat.mod_lt _ (by omega)
        have h2 : (r1 + 1) = (r + 1) * ((r1 + 1) / (r + 1)) + (r1 + 1) % (r + 1) := (Nat.div_add_mod _ _).symm
        have h3 : 1 ≤ (r1 + 1) / (r + 1) := Nat.div_pos (by omega) (by omega)
        have h4 : r + 1 ≤ (r + 1) * ((r1 + 1) / (r + 1)) := Nat.le_mul_of_pos_right _ h3
        rw [Nat.pow_succ] at hk
        omega
      obtain ⟨u, x6, x7, e3, e4, e5⟩ := eg_loop (a := a) (b := b) (c := c) (M := M) hR k (r + 1) ((r1 + 1) % (r + 1)) _ _ x'' hb n2
      have g2 : Nat.gcd (r1 + 1) (r + 1) = Nat.gcd (r + 1) ((r1 + 1) % (r + 1)) := by rw [Nat.gcd_comm, Nat.gcd_rec, Nat.gcd_comm]
      rw [show 2 * k + 2 = (2 * k + 1) + 1 by omega, e2, g2]
      exact ⟨u, x6, x7, e3, e4, e5⟩
theorem sp_times_of {step goal ring : Int} {M : Sto} (h1 : 0 < ring) (h2 : ring < 2 ^ 109) (h3 : 0 ≤ goal) (h4 : goal < 2 ^ 109) :
    ∃ t, F_times_of [.p (.int step), .p (.int goal), .p (.int ring)] M = .ok (.p (.int t)) M ∧ 0 ≤ t ∧ t < ring ∧ ring ∣ t * step - goal * (Nat.gcd ring.toNat (step % ring).toNat : Nat) := by
  have f4 := four_lim
  have a1 := Int.emod_nonneg step (Int.ne_of_gt h1)
  have a2 := Int.emod_lt_of_pos step h1
  have inv : EgI ring step ring.toNat (step % ring).toNat 0 1 := by
    refine ⟨by omega, by omega, by omega, ?_, ?_, by simp, by simp⟩
    · rw [Int.zero_mul, Int.zero_sub, Int.toNat_of_nonneg (by omega)]
      exact (Int.dvd_neg).mpr (Int.dvd_refl _)
    · rw [Int.one_mul, Int.toNat_of_nonneg a1]
      exact Int.dvd_self_sub_emod
  obtain ⟨u, x6, x7, e1, e2, e3⟩ := eg_loop (a := some (.p (.int step))) (b := some (.p (.int goal))) (c := some (.p (.int ring))) (M := M) h2 109 ring.toNat (step % ring).toNat 0 1 none (toNat_lt (Int.lt_trans a2 h2)) inv
  rw [Int.toNat_of_nonneg (Int.le_of_lt h1), Int.toNat_of_nonneg a1] at e1
  refine ⟨u * goal % ring, ?_, Int.emod_nonneg _ (Int.ne_of_gt h1), Int.emod_lt_of_pos _ h1, ?_⟩
  · unfold F_times_of
    rw [fnB3]
    refine lv_p ?_
    unfold b_times_of
    refine Eq.trans (seq_ok (unp_ok (M1 := M) (p := .tup [.int ring, .int (step % ring), .int 0, .int 1]) ?_ (by simp; rfl))) ?_
    · simp [o_mod_i h1, f4]
    have e4 : sWhile cT bT [some (.p (.int step)), some (.p (.int goal)), some (.p (.int ring)), some (.p (.int ring)), some (.p (.int (step % ring))), some (.p (.int 0)), some (.p (.int 1)), none] M = .ok (.nx [some (.p (.int step)), some (.p (.int goal)), some (.p (.int ring)), some (.p (.int (Nat.gcd ring.toNat (step % ring).toNat : Nat))), some (.p (.int 0)), some (.p (.int u)), x6, x7]) M := by
      rw [sWhile_eq (n := 2 * 109 + 1) (by rw [e1]; exact fun z => nomatch z) (by decide), e1]
    refine Eq.trans (seq_ok e4) (seq_rt (ret_ok (bin_ok (d1 := .p (.int (u * goal))) (d2 := .p (.int ring)) (M1 := M) (bin_ok (d1 := .p (.int u)) (d2 := .p (.int goal)) (M1 := M) rfl rfl rfl rfl (oMul_ok ?_)) rfl rfl rfl (o_mod_i h1))))
    refine mulOk_b ?_ (lt1000 h3 h4)
    have : ring.toNat < 2 ^ 1000 := Nat.lt_of_lt_of_le (toNat_lt h2) (Nat.pow_le_pow_right (by decide) (by decide))
    omega
  · have k : u * goal % ring * step - goal * (Nat.gcd ring.toNat (step % ring).toNat : Nat) = goal * (u * step - (Nat.gcd ring.toNat (step % ring).toNat : Nat)) - (u * goal - u * goal % ring) * step := by
      generalize ((Nat.gcd ring.toNat (step % ring).toNat : Nat) : Int) = g
      generalize u * goal % ring = w
      rw [Int.mul_sub, Int.sub_mul, ← Int.mul_assoc, Int.mul_comm goal u]
      omega
    rw [k]
    exact Int.dvd_sub (Int.dvd_trans e2 (Int.dvd_mul_left _ _)) (Int.dvd_trans Int.dvd_self_sub_emod (Int.dvd_mul_right _ _))
end Ev

set_option linter.all false
set_option maxRecDepth 100000
set_option maxHeartbeats 4000000
/-! Spec10: hits. -/
namespace Ev
open PySem
def cntM (n k t : Nat) : Nat := ((List.range n).filter fun x => decide (x % k = t)).length
theorem succ_div' {a k : Nat} (hk : 0 < k) : (a + 1) / k = a / k + if (a + 1) % k = 0 then 1 else 0 := by
  have h1 := Nat.div_add_mod a k
  have h2 := Nat.mod_lt a hk
  by_cases z : a % k + 1 = k
  · have e : a + 1 = k * (a / k + 1) := by rw [Nat.mul_add]; omega
    rw [e, Nat.mul_mod_right, if_pos rfl, Nat.mul_div_cancel_left _ hk]
  · have e : a + 1 = (a % k + 1) + k * (a / k) := by omega
    have hlt : a % k + 1 < k := by omega
    have em : (a + 1) % k = a % k + 1 := by
      conv => lhs; rw [e]
      rw [Nat.add_mul_mod_self_left, Nat.mod_eq_of_lt hlt]
    have ed : (a + 1) / k = a / k := by
      conv => lhs; rw [e]
      rw [Nat.add_mul_div_left _ _ hk, Nat.div_eq_of_lt hlt, Nat.zero_add]
    rw [em, ed, if_neg (by omega)]
    rfl
theorem cntM_eq {k t : Nat} (ht : t < k) : ∀ n, cntM n k t = if t < n then (n - 1 - t) / k + 1 else 0
  | 0 => by simp [cntM]
  | n + 1 => by
    have ih := cntM_eq ht n
    have hk : 0 < k := by omega
    unfold cntM at ih ⊢
    rw [List.range_succ, List.filter_append, List.length_append, ih, Nat.add_sub_cancel]
    have e1 : (List.filter (fun x => decide (x % k = t)) [n]).length = if n % k = t then 1 else 0 := by
      by_cases z : n % k = t <;> simp [z]
    rw [e1]
    by_cases h1 : t < n
    · rw [if_pos h1, if_pos (show t < n + 1 by omega)]
      have e2 : n - t = (n - 1 - t) + 1 := by omega
      rw [e2, succ_div' hk, ← e2]
      have e3 : (n - t) % k = 0 ↔ n % k = t := by
        constructor
        · intro z
          have : n = t + k * ((n - t) / k) := by
            have := Nat.div_add_mod (n - t) k
            omega
          rw [this, Nat.add_mul_mod_self_left, Nat.mod_eq_of_lt ht]
        · intro z
          have : n - t = k * (n / k) := by
            have := Nat.div_add_mod n k
            omega
          rw [this, Nat.mul_mod_right]
      by_cases z : n % k = t
      · rw [if_pos z, if_pos (e3.mpr z)]
      · rw [if_neg z, if_neg (fun w => z (e3.mp w))]
    · rw [if_neg h1]
      by_cases h2 : t < n + 1
      · have : t = n := by omega
        subst this
        rw [if_pos h2, Nat.mod_eq_of_lt ht, if_pos rfl, Nat.sub_self, Nat.zero_div]
      · rw [if_neg h2, if_neg]
        intro z
        have := Nat.mod_le n k
        omega
/-- how many of the first lines strike a place -/
def hitN (begin step R place lines : Int) : Nat := ((List.range lines.toNat).filter fun (x : Nat) => decide (R ∣ begin + (x : Int) * step - place)).length
theorem hitN_no {b s R p n g : Int} (h1 : g ∣ R) (h2 : g ∣ s) (h3 : ¬ g ∣ p - b) : hitN b s R p n = 0 := by
  unfold hitN
  rw [List.length_eq_zero_iff, List.filter_eq_nil_iff]
  intro x _ hx
  rw [decide_eq_true_eq] at hx
  apply h3
  have k := Int.dvd_trans h1 hx
  have k2 : p - b = (x : Int) * s - (b + (x : Int) * s - p) := by omega
  rw [k2]
  exact Int.dvd_sub (Int.dvd_trans h2 (Int.dvd_mul_left _ _)) k
theorem hitN_yes {b s R p n t : Int} {g : Nat} (h0 : 0 < R) (hg : 0 < g) (h1 : (g : Int) ∣ R) (h2 : (g : Int) ∣ s) (co : ∀ z : Int, R / g ∣ z * (s / g) → R / g ∣ z) (t0 : 0 ≤ t) (t1 : t < R / g) (ht : R ∣ b + t * s - p) :
    ((hitN b s R p n : Nat) : Int) = if t < n then (n - 1 - t) / (R / g) + 1 else 0 := by
  have key : ∀ x : Nat, R ∣ b + (x : Int) * s - p ↔ x % (R / g).toNat = t.toNat := by
    intro x
    have e1 : R ∣ b + (x : Int) * s - p ↔ R ∣ ((x : Int) - t) * s := by
      have e : b + (x : Int) * s - p = (b + t * s - p) + ((x : Int) - t) * s := by rw [Int.sub_mul]; omega
      rw [e]
      exact Int.dvd_add_right ht
    have gp : (0 : Int) < g := by omega
    have eR : R = g * (R / g) := (Int.mul_ediv_cancel' h1).symm
    have es : s = g * (s / g) := (Int.mul_ediv_cancel' h2).symm
    have e2 : R ∣ ((x : Int) - t) * s ↔ R / g ∣ ((x : Int) - t) * (s / g) := by
      have e : ((x : Int) - t) * s = g * (((x : Int) - t) * (s / g)) := by
        conv => lhs; rw [es]
        rw [← Int.mul_assoc, ← Int.mul_assoc, Int.mul_comm ((x : Int) - t)]
      rw [e]
      constructor
      · intro z
        rw [eR] at z
        exact Int.dvd_of_mul_dvd_mul_left (Int.ne_of_gt gp) z
      · intro z
        conv => lhs; rw [eR]
        exact Int.mul_dvd_mul_left _ z
    have e3 : R / g ∣ ((x : Int) - t) * (s / g) ↔ R / g ∣ (x : Int) - t := ⟨co _, fun z => Int.dvd_trans z (Int.dvd_mul_right _ _)⟩
    have kp : 0 < R / g := by omega
    have e4 : R / g ∣ (x : Int) - t ↔ (x : Int) % (R / g) = t := by
      constructor
      · intro z
        have := Int.emod_emod_of_dvd (x : Int) (Int.dvd_refl (R / g))
        have z2 : ((x : Int) - t) % (R / g) = 0 := Int.emod_eq_zero_of_dvd z
        have z3 := Int.emod_eq_emod_iff_emod_sub_eq_zero.mpr z2
        rw [z3]
        exact Int.emod_eq_of_lt t0 t1
      · intro z
        have : (x : Int) - t = (x : Int) - (x : Int) % (R / g) := by rw [z]
        rw [this]
        exact Int.dvd_self_sub_emod
    rw [e1, e2, e3, e4]
    have e5 : (x : Int) % (R / g) = ((x % (R / g).toNat : Nat) : Int) := by
      rw [Int.natCast_emod, Int.toNat_of_nonneg (Int.le_of_lt kp)]
    rw [e5]
    omega
  have e : hitN b s R p n = cntM n.toNat (R / g).toNat t.toNat := by
    unfold hitN cntM
    congr 1
    apply List.filter_congr
    intro x _
    rw [decide_eq_decide]
    exact key x
  rw [e, cntM_eq (by omega)]
  by_cases z : t < n
  · rw [if_pos z, if_pos (by omega)]
    have : ((n.toNat - 1 - t.toNat : Nat) : Int) = n - 1 - t := by omega
    rw [Int.natCast_add, Int.natCast_ediv, this, Int.toNat_of_nonneg (by omega)]
    rfl
  · rw [if_neg z, if_neg (by omega)]
    rfl
theorem toNat_div {x : Int} {g : Nat} (h : 0 ≤ x) : (x / (g : Int)).toNat = x.toNat / g := by
  obtain ⟨n, rfl⟩ := Int.eq_ofNat_of_zero_le h
  rw [← Int.natCast_ediv]
  rfl
theorem sp_hits {b s R p n : Int} {M : Sto} (h1 : 0 < R) (h2 : R < 2 ^ 109) (hs : 0 ≤ s) :
    F_hits [.p (.int b), .p (.int s), .p (.int R), .p (.int p), .p (.int n)] M = .ok (.p (.int (hitN b s R p n))) M := by
  have a1 := Int.emod_nonneg s (Int.ne_of_gt h1)
  have a2 := Int.emod_lt_of_pos s h1
  generalize hg : Nat.gcd R.toNat (s % R).toNat = g
  have hd := sp_div_ring (s := s) (M := M) h1 h2
  have gp := gcd_pos_i (n := (s % R).toNat) h1
  have gl := gcd_le_i (n := (s % R).toNat) h1
  rw [hg] at hd gp gl
  have g1 : (g : Int) ∣ R := by
    have := Nat.gcd_dvd_left R.toNat (s % R).toNat
    rw [hg] at this
    have := Int.natCast_dvd_natCast.mpr this
    rwa [Int.toNat_of_nonneg (Int.le_of_lt h1)] at this
  have g2' : (g : Int) ∣ s % R := by
    have := Nat.gcd_dvd_right R.toNat (s % R).toNat
    rw [hg] at this
    have := Int.natCast_dvd_natCast.mpr this
    rwa [Int.toNat_of_nonneg a1] at this
  have g2 : (g : Int) ∣ s := by
    have e : s = s % R + (s - s % R) := by omega
    rw [e]
    exact Int.dvd_add g2' (Int.dvd_trans g1 Int.dvd_self_sub_emod)
  unfold F_hits
  rw [fnB5]
  refine lv_p ?_
  unfold b_hits
  rw [seq_ok (set_ok (d := .p (.int g)) (M1 := M) (call_ok (n := 2) (ds := [.p (.int R), .p (.int (s % R))]) (M1 := M) (by simp [o_mod_i h1]) rfl hd))]
  have hc : bOf (eBin oNe (eBin oMod (eBin oSub (eVar 3) (eVar 0)) (eVar 5)) (eC (.int 0))) ((some (D.p (.int b)) :: some (.p (.int s)) :: some (.p (.int R)) :: some (.p (.int p)) :: some (.p (.int n)) :: List.replicate (8 - 5) none).set 5 (some (D.p (.int g)).val)) M = .ok (!decide ((p - b) % g = 0)) M := by
    simp [o_mod_i gp]
  by_cases hz : (p - b) % g = 0
  · rw [seq_ok (by rw [if_f (M1 := M) (by rw [hc, decide_eq_true hz]; rfl)]; rfl)]
    have mp : 0 < R / g := Int.ediv_pos_of_pos_of_dvd h1 (Int.le_of_lt gp) g1
    have ml : R / g ≤ R := Int.ediv_le_self _ (Int.le_of_lt h1)
    have m2 : R / g < 2 ^ 109 := Int.lt_of_le_of_lt ml h2
    have q0 := Int.emod_nonneg ((p - b) / g) (Int.ne_of_gt mp)
    have q1 := Int.emod_lt_of_pos ((p - b) / g) mp
    obtain ⟨t, e1, t0, t1, e2⟩ := sp_times_of (step := s / g) (goal := (p - b) / g % (R / g)) (ring := R / g) (M := M) mp m2 q0 (Int.lt_trans q1 m2)
    have g1000 : ((g : Int)).natAbs < 2 ^ 1000 := lt1000 (Int.le_of_lt gp) (Int.lt_of_le_of_lt gl h2)
    have fd : ∀ x : Int, oFdiv (.int x) (.int g) = some (.p (.int (x / g))) := fun x => oFdiv_ok gp g1000
    have fd2 : ∀ x : Int, oFdiv (.int x) (.int (R / g)) = some (.p (.int (x / (R / g)))) := fun x => oFdiv_ok mp (lt1000 (Int.le_of_lt mp) m2)
    have cop : Nat.gcd (R / g).toNat (s / g % (R / g)).toNat = 1 := by
      have e3 : (R / g).toNat = R.toNat / g := toNat_div (Int.le_of_lt h1)
      have e4 : s / g % (R / g) = s % R / g := by
        have ee : s / g = s % R / g + (R / g) * (s / R) := by
          have k1 : s = g * (s % R / g + (R / g) * (s / R)) := by
            rw [Int.mul_add, Int.mul_ediv_cancel' g2', ← Int.mul_assoc, Int.mul_ediv_cancel' g1]
            exact (Int.emod_add_mul_ediv s R).symm
          conv => lhs; rw [k1]
          exact Int.mul_ediv_cancel_left _ (Int.ne_of_gt gp)
        rw [ee, Int.add_mul_emod_self_left]
        refine Int.emod_eq_of_lt (Int.ediv_nonneg a1 (Int.le_of_lt gp)) ?_
        rw [Int.ediv_lt_iff_lt_mul gp, Int.ediv_mul_cancel g1]
        exact a2
      have e5 : (s % R / g).toNat = (s % R).toNat / g := toNat_div a1
      rw [e3, e4, e5]
      have gpn : 0 < g := by omega
      have := Nat.gcd_div (m := R.toNat) (n := (s % R).toNat) (k := g) (by rw [← hg]; exact Nat.gcd_dvd_left _ _) (by rw [← hg]; exact Nat.gcd_dvd_right _ _)
      rw [this, hg, Nat.div_self gpn]
    rw [cop] at e2
    have co : ∀ z : Int, R / g ∣ z * (s / g) → R / g ∣ z := by
      intro z hzz
      have n1 := Int.emod_nonneg (s / g) (Int.ne_of_gt mp)
      have z1 : R / g ∣ z * (s / g % (R / g)) := by
        have e6 : z * (s / g % (R / g)) = z * (s / g) - z * (s / g - s / g % (R / g)) := by rw [Int.mul_sub]; omega
        rw [e6]
        exact Int.dvd_sub hzz (Int.dvd_trans Int.dvd_self_sub_emod (Int.dvd_mul_left _ _))
      have z2 := Int.natAbs_dvd_natAbs.mpr z1
      rw [Int.natAbs_mul, show (R / g).natAbs = (R / g).toNat by omega, show (s / g % (R / g)).natAbs = (s / g % (R / g)).toNat by omega] at z2
      have z3 := Nat.Coprime.dvd_of_dvd_mul_right cop z2
      rw [show (R / g).toNat = (R / g).natAbs by omega] at z3
      exact Int.natAbs_dvd_natAbs.mp z3
    have ht : R ∣ b + t * s - p := by
      have w1 : R / g ∣ t * (s / g) - (p - b) / g := by
        have w2 : t * (s / g) - (p - b) / g = (t * (s / g) - (p - b) / g % (R / g) * (1 : Nat)) - ((p - b) / g - (p - b) / g % (R / g)) := by omega
        rw [w2]
        exact Int.dvd_sub e2 Int.dvd_self_sub_emod
      have w3 : b + t * s - p = g * (t * (s / g) - (p - b) / g) := by
        have k1 : (g : Int) * ((p - b) / g) = p - b := Int.mul_ediv_cancel' (Int.dvd_of_emod_eq_zero hz)
        have k2 : (g : Int) * (t * (s / g)) = t * s := by
          rw [Int.mul_left_comm, Int.mul_ediv_cancel' g2]
        rw [Int.mul_sub, k1, k2]
        omega
      rw [w3]
      have w4 := Int.mul_dvd_mul_left (g : Int) w1
      rwa [Int.mul_ediv_cancel' g1] at w4
    have fin := hitN_yes (b := b) (s := s) (R := R) (p := p) (n := n) (t := t) (g := g) h1 (by omega) g1 g2 co t0 t1 ht
    rw [fin]
    rw [seq_ok (set_ok (d := .p (.int (R / g))) (M1 := M) (by simp [fd]))]
    rw [seq_ok (set_ok (d := .p (.int t)) (M1 := M) (call_ok (n := 3) (ds := [.p (.int (s / g)), .p (.int ((p - b) / g % (R / g))), .p (.int (R / g))]) (M1 := M) (by simp [fd, o_mod_i mp]) rfl e1))]
    refine seq_rt (ret_ok ?_)
    by_cases z : t < n
    · simp [z, fd2]
    · simp [z]
  · rw [hitN_no g1 g2 (fun z => hz (Int.emod_eq_zero_of_dvd z))]
    refine seq_rt ?_
    rw [if_t (M1 := M) (by rw [hc, decide_eq_false hz]; rfl)]
    exact seq_rt (ret_ok rfl)
end Ev

set_option linter.all false
set_option maxRecDepth 100000
set_option maxHeartbeats 4000000
/-! Spec11: standings_by, wear, first_off. -/
namespace Ev
open PySem
theorem forL_nil {t : Tg} {b : EvS} {σ : Fr} {M : Sto} : forL t b [] σ M = .ok (.nx σ) M := rfl
theorem forL_nx {t : Tg} {b : EvS} {p : P} {ps : List P} {σ σ1 σ2 : Fr} {M M2 : Sto} (h1 : tgA t p σ = some σ1) (h2 : b σ1 M = .ok (.nx σ2) M2) : forL t b (p :: ps) σ M = forL t b ps σ2 M2 := by
  rw [forL, h1]
  dsimp only
  rw [h2]
theorem forL_rt {t : Tg} {b : EvS} {p : P} {ps : List P} {σ σ1 : Fr} {M M2 : Sto} {d : D} (h1 : tgA t p σ = some σ1) (h2 : b σ1 M = .ok (.rt d) M2) : forL t b (p :: ps) σ M = .ok (.rt d) M2 := by
  rw [forL, h1]
  dsimp only
  rw [h2]
theorem aug_ok {i : Nat} {o : P → P → Option D} {f : EvD} {σ : Fr} {M M1 : Sto} {d : D} {x y : P} {r : D} (h0 : σ[i]? = some (some (.p x))) (h : f σ M = .ok (.p y) M1) (h2 : o x y = some r) : sAug i o f σ M = .ok (.nx (σ.set i (some r.val))) M1 := by
  rw [x_sAug, h0]
  dsimp only
  rw [h]
  show (match o x y with
    | some d => Out.ok d M1
    | none => .no).toS σ _ = _
  rw [h2]
  rfl
theorem rng_ok {n : Nat} {fs : EvA} {σ : Fr} {M M1 : Sto} (h : fs σ M = .ok [.p (.int (n : Int))] M1) (hl : n ≤ lim) : iRange1 fs σ M = .ok (rgs 0 n) M1 := by
  simp only [iRange1, h, Out.bind, rg_ok hl, if_true, Int.toNat_natCast]
theorem sp_standings_by {rb : List (Str × Int)} {st : List Int} {b : Int} {l : Str} {M : Sto} (h : MOk rb st) (hl : (cs l).length ≤ 1000) :
    F_standings_by [.p (machP rb st), .p (.int b), .p (.str l)] M = .ok (.nw (((List.range (cs l).length).map fun i => standS rb st b l 0 i).map P.int)) M := by
  have hll : (cs l).length ≤ lim := Nat.le_trans hl lim_big
  unfold F_standings_by
  rw [fnB3]
  refine lv_n ?_
  unfold b_standings_by
  refine seq_rt (ret_ok ?_)
  have hq : ((List.range (cs l).length).map fun i => standS rb st b l 0 i).map P.int = (rgs 0 (cs l).length).map (fun p => match p with | .int i => .int (standS rb st b l 0 i.toNat) | _ => .non) := by
    simp [rgs, Function.comp_def]
  rw [hq]
  refine eLc_map _ (rng_ok (M1 := M) (cons_ok (M1 := M) (callB_ok (ds := [.p (.str l)]) (M1 := M) (ps := [.str l]) (by simp) rfl (len_ok hll)) nil_ok) hll) rfl (fun p hp => ?_) (by simp only [rgs, List.length_map, List.length_range]; exact hll)
  obtain ⟨i, hi, rfl⟩ := List.mem_map.mp hp
  refine ⟨_, x_nm, fun M' => ⟨.p (.int (standS rb st b l 0 i)), ?_, by simp⟩⟩
  exact call_ok (n := 5) (ds := [.p (machP rb st), .p (.int b), .p (.str l), .p (.int 0), .p (.int (i : Int))]) (M1 := M') (by simp [wipeF]) rfl (sp_standing_by h hl)
def bW : EvS := (sSeq (sFor (.nm 9) (iOf (eTup (aCons (eVar 4) (aCons (eBin oSub (eBin oSub (eVar 7) (eC (.int 1))) (eVar 4)) aNil)))) (sSeq (sAug 5 oIadd (eCall 5 F_hits (aCons (eVar 6) (aCons (eVar 8) (aCons (eVar 7) (aCons (eVar 9) (aCons (eVar 3) aNil)))))))
    sNil))
    sNil)
def bW9 : EvS := (sSeq (sAug 5 oIadd (eCall 5 F_hits (aCons (eVar 6) (aCons (eVar 8) (aCons (eVar 7) (aCons (eVar 9) (aCons (eVar 3) aNil)))))))
    sNil)
theorem bW9_ok {m b l : Option D} {lines place acc s R S q : Int} {M : Sto} (h1 : 0 < R) (h2 : R < 2 ^ 109) (hs : 0 ≤ S) :
    bW9 [m, b, l, some (.p (.int lines)), some (.p (.int place)), some (.p (.int acc)), some (.p (.int s)), some (.p (.int R)), some (.p (.int S)), some (.p (.int q))] M =
      .ok (.nx [m, b, l, some (.p (.int lines)), some (.p (.int place)), some (.p (.int (acc + hitN s S R q lines))), some (.p (.int s)), some (.p (.int R)), some (.p (.int S)), some (.p (.int q))]) M := by
  unfold bW9
  rw [seq_ok (aug_ok (d := .p .non) (x := .int acc) (y := .int (hitN s S R q lines)) (M1 := M) (r := .p (.int (acc + hitN s S R q lines))) rfl ?_ rfl)]
  · rfl
  · exact call_ok (n := 5) (ds := [.p (.int s), .p (.int S), .p (.int R), .p (.int q), .p (.int lines)]) (M1 := M) (by simp) rfl (sp_hits h1 h2 hs)
theorem wear_loop {m b l : Option D} {lines place R S : Int} {M : Sto} (h1 : 0 < R) (h2 : R < 2 ^ 109) (hs : 0 ≤ S) : ∀ (L : List Int) (acc : Int) (x6 x9 : Option D),
    ∃ y6 y9, forL (.nm 6) bW (L.map P.int) [m, b, l, some (.p (.int lines)), some (.p (.int place)), some (.p (.int acc)), x6, some (.p (.int R)), some (.p (.int S)), x9] M =
      .ok (.nx [m, b, l, some (.p (.int lines)), some (.p (.int place)), some (.p (.int (acc + (L.map fun s => ((hitN s S R place lines : Nat) : Int) + hitN s S R (R - 1 - place) lines).sum))), y6, some (.p (.int R)), some (.p (.int S)), y9]) M
  | [], acc, x6, x9 => ⟨x6, x9, by simp [forL_nil]⟩
  | s :: r, acc, x6, x9 => by
    have l2 : 2 ≤ lim := Nat.le_trans (by decide) lim_big
    obtain ⟨y6, y9, e⟩ := wear_loop (m := m) (b := b) (l := l) (lines := lines) (place := place) (M := M) h1 h2 hs r (acc + hitN s S R place lines + hitN s S R (R - 1 - place) lines) (some (.p (.int s))) (some (.p (.int (R - 1 - place))))
    refine ⟨y6, y9, ?_⟩
    rw [List.map_cons]
    refine Eq.trans (forL_nx (M2 := M) (σ2 := [m, b, l, some (.p (.int lines)), some (.p (.int place)), some (.p (.int (acc + hitN s S R place lines + hitN s S R (R - 1 - place) lines))), some (.p (.int s)), some (.p (.int R)), some (.p (.int S)), some (.p (.int (R - 1 - place)))]) x_nm ?_) ?_
    · show bW [m, b, l, some (.p (.int lines)), some (.p (.int place)), some (.p (.int acc)), some (.p (.int s)), some (.p (.int R)), some (.p (.int S)), x9] M = _
      unfold bW
      refine Eq.trans (seq_ok (Eq.trans (for_ok (ps := [.int place, .int (R - 1 - place)]) (M1 := M) (by simp [l2])) (Eq.trans (forL_nx x_nm (bW9_ok (q := place) h1 h2 hs)) (Eq.trans (forL_nx x_nm (bW9_ok (q := R - 1 - place) h1 h2 hs)) forL_nil)))) rfl
    · rw [e, List.map_cons, List.sum_cons]
      simp only [Int.add_assoc]
def wearS (rb : List (Str × Int)) (st : List Int) (b : Int) (l : Str) (lines place : Int) : Int :=
  ((List.range (cs l).length).map fun i => ((hitN (standS rb st b l 0 i) (stepsS st (cs l)) (2 * lenS rb) place lines : Nat) : Int) + hitN (standS rb st b l 0 i) (stepsS st (cs l)) (2 * lenS rb) (2 * lenS rb - 1 - place) lines).sum
theorem sp_wear {rb : List (Str × Int)} {st : List Int} {b lines place : Int} {l : Str} {M : Sto} (h : MOk rb st) (hb : 0 ≤ b) (hb2 : b ≤ 2 * lenS rb - 1) (hl : LOk st l) (hn : 0 ≤ lines) (hn2 : lines ≤ GRT) (hp : 0 ≤ place) (hp2 : place ≤ lenS rb - 1) :
    F_wear [.p (machP rb st), .p (.int b), .p (.str l), .p (.int lines), .p (.int place)] M = .ok (.p (.int (wearS rb st b l lines place))) M := by
  obtain ⟨rg1, rg2⟩ := h.ring
  have h40 := hl.le
  unfold F_wear
  rw [fnB5]
  refine lv_p ?_
  unfold b_wear
  rw [seq_ok (exp_ok (d := .p .non) (M1 := M) (by simp [sp_need_all h hb hb2 hl]))]
  rw [seq_ok (exp_ok (d := .p .non) (M1 := M) (by simp [sp_need_number hn hn2]))]
  rw [seq_ok (exp_ok (d := .p .non) (M1 := M) (by simp [sp_need_place h hp hp2]))]
  refine Eq.trans (seq_ok (M1 := M) (σ1 := [some (.p (machP rb st)), some (.p (.int b)), some (.p (.str l)), some (.p (.int lines)), some (.p (.int place)), none, none, some (.p (.int (2 * lenS rb))), some (.p (.int (stepsS st (cs l)))), none]) ?_) ?_
  · simp [sp_length_by h.ll, sp_steps_by h hl.ll]
  rw [seq_ok (set_ok (d := .p (.int 0)) (M1 := M) rfl)]
  obtain ⟨y6, y9, e⟩ := wear_loop (m := some (.p (machP rb st))) (b := some (.p (.int b))) (l := some (.p (.str l))) (lines := lines) (place := place) (M := M) rg1 rg2 (stepsS_bd h (cs l)).1 ((List.range (cs l).length).map fun i => standS rb st b l 0 i) 0 none none
  refine Eq.trans (seq_ok (Eq.trans (for_ok (ps := ((List.range (cs l).length).map fun i => standS rb st b l 0 i).map P.int) (M1 := M) ?_) e)) ?_
  · rw [x_iOf, call_ok (n := 3) (ds := [.p (machP rb st), .p (.int b), .p (.str l)]) (M1 := M) (M2 := M) (by simp) rfl (sp_standings_by h (by omega))]
    rfl
  · refine seq_rt (ret_ok ?_)
    rw [List.map_map, Int.zero_add]
    rfl
def offPut (best : Option (Int × Int)) (i : Nat) : Option Int → Option (Int × Int)
  | none => best
  | some y => match best with
    | none => some (y, i)
    | some z => if y < z.1 then some (y, i) else some z
def offStep (rb : List (Str × Int)) (st : List Int) (b : Int) (l w : Str) (best : Option (Int × Int)) (i : Nat) (c : Nat) : Option (Int × Int) :=
  offPut best i (if (cs w)[i]? ≠ some c then byS rb st b l i (sg c) else none)
def offS (rb : List (Str × Int)) (st : List Int) (b : Int) (l w : Str) : Option (Int × Int) :=
  (List.range (cs l).length).foldl (fun best i => [98, 103, 114].foldl (fun best c => offStep rb st b l w best i c) best) none
def optPr : Option (Int × Int) → P
  | none => .non
  | some p => prP p
def bO6 : EvS := (sSeq (sSet 7 (eIf (bOf (eBin oNe (eVar 6) (eBin oIx (eVar 3) (eVar 5)))) (eCall 5 F_first_by (aCons (eVar 0) (aCons (eVar 1) (aCons (eVar 2) (aCons (eVar 5) (aCons (eVar 6) aNil)))))) (eC (.non))))
    (sSeq (sIf (bAnd (bOf (eBin oNotN (eVar 7) (eC (.non)))) (bOr (bOf (eBin oIsN (eVar 4) (eC (.non)))) (bOf (eBin oLt (eVar 7) (eBin oIx (eVar 4) (eC (.int 0))))))) (sSeq (sSet 4 (eTup (aCons (eVar 7) (aCons (eVar 5) aNil))))
    sNil) sNil)
    sNil))
theorem sg_inj {a c : Nat} : sg a = sg c ↔ a = c := ⟨fun h => by
  have := congrArg cs h
  simpa using this, fun h => by rw [h]⟩
section
variable {rb : List (Str × Int)} {st : List Int} {b : Int} {l w : Str} {M : Sto}
theorem oIx_s {i c : Nat} (hw : (cs w).length ≤ lim) (h : (cs w)[i]? = some c) : oIx (.str w) (.int (i : Int)) = some (.p (.str (sg c))) := by
  have hi := (List.getElem?_eq_some_iff.mp h).1
  show (if w.length ≤ lim then (L2.atI w.cps.toList (i : Int)).map fun c => D.p (.str ⟨#[c]⟩) else none) = _
  rw [if_pos (by rw [len_cs]; exact hw)]
  have : L2.atI w.cps.toList (i : Int) = some c := by
    unfold L2.atI L2.ixN
    have k : (0 : Int) ≤ (i : Int) ∧ (i : Int) < ((cs w).length : Int) := by omega
    simp only [Array.length_toList] at k ⊢
    simp [k.1, k.2]
    simpa using h
  rw [this]
  rfl
theorem bO6_ok {best : Option (Int × Int)} {i c : Nat} {x7 : Option D} (h : MOk rb st) (hl : (cs l).length ≤ 40) (hw : (cs w).length = (cs l).length) (hi : i < (cs l).length) :
    ∃ y7, bO6 [some (.p (machP rb st)), some (.p (.int b)), some (.p (.str l)), some (.p (.str w)), some (.p (optPr best)), some (.p (.int (i : Int))), some (.p (.str (sg c))), x7] M =
      .ok (.nx [some (.p (machP rb st)), some (.p (.int b)), some (.p (.str l)), some (.p (.str w)), some (.p (optPr (offStep rb st b l w best i c))), some (.p (.int (i : Int))), some (.p (.str (sg c))), y7]) M := by
  have l2 : 2 ≤ lim := Nat.le_trans (by decide) lim_big
  have hwl : (cs w).length ≤ lim := by have := lim_big; omega
  have hi' : i < (cs w).length := by omega
  have hx := oIx_s (i := i) (c := (cs w)[i]) hwl (List.getElem?_eq_getElem hi')
  generalize hf : (if (cs w)[i]? ≠ some c then byS rb st b l i (sg c) else none) = f
  refine ⟨some (.p (optI f)), ?_⟩
  unfold bO6
  refine Eq.trans (seq_ok (set_ok (d := .p (optI f)) (M1 := M) ?_)) ?_
  · rw [x_eIf, x_bOf, bin_ok (d1 := .p (.str (sg c))) (d2 := .p (.str (sg (cs w)[i]))) (M1 := M) (M2 := M) rfl (bin_ok (d1 := .p (.str w)) (d2 := .p (.int (i : Int))) (M1 := M) rfl rfl rfl rfl hx) rfl rfl o_ne_s]
    rw [List.getElem?_eq_getElem hi'] at hf
    by_cases z : (cs w)[i] = c
    · rw [if_neg (by rw [z]; simp)] at hf
      subst hf
      rw [decide_eq_true (sg_inj.mpr z.symm)]
      rfl
    · rw [if_pos (by simpa using z)] at hf
      subst hf
      rw [decide_eq_false (fun q => z (sg_inj.mp q).symm)]
      simp only [Out.bind, Bool.not_false, if_true]
      exact call_ok (n := 5) (ds := [.p (machP rb st), .p (.int b), .p (.str l), .p (.int (i : Int)), .p (.str (sg c))]) (M1 := M) (by simp) rfl (sp_first_by h (by omega))
  · have ho : offStep rb st b l w best i c = offPut best i f := by
      unfold offStep; rw [hf]
    rw [ho]
    cases f with
    | none => simp [optI, oNotN, P.isN, offPut]
    | some y =>
      cases best with
      | none => simp [optI, oNotN, oIsN, P.isN, optPr, prP, l2, offPut]
      | some z =>
        by_cases hz : y < z.1
        · simp [optI, oNotN, oIsN, P.isN, optPr, prP, l2, hz, offPut]
        · simp [optI, oNotN, oIsN, P.isN, optPr, prP, l2, hz, offPut]
theorem off_in {i : Nat} (h : MOk rb st) (hl : (cs l).length ≤ 40) (hw : (cs w).length = (cs l).length) (hi : i < (cs l).length) : ∀ (C : List Nat) (best : Option (Int × Int)) (x6 x7 : Option D),
    ∃ y6 y7, forL (.nm 6) bO6 (C.map fun c => P.str (sg c)) [some (.p (machP rb st)), some (.p (.int b)), some (.p (.str l)), some (.p (.str w)), some (.p (optPr best)), some (.p (.int (i : Int))), x6, x7] M =
      .ok (.nx [some (.p (machP rb st)), some (.p (.int b)), some (.p (.str l)), some (.p (.str w)), some (.p (optPr (C.foldl (fun best c => offStep rb st b l w best i c) best))), some (.p (.int (i : Int))), y6, y7]) M
  | [], best, x6, x7 => ⟨x6, x7, rfl⟩
  | c :: C, best, x6, x7 => by
    obtain ⟨z7, e1⟩ := bO6_ok (b := b) (M := M) (best := best) (c := c) (x7 := x7) h hl hw hi
    obtain ⟨y6, y7, e⟩ := off_in h hl hw hi C (offStep rb st b l w best i c) (some (.p (.str (sg c)))) z7
    exact ⟨y6, y7, Eq.trans (forL_nx x_nm e1) e⟩
theorem off_out (h : MOk rb st) (hl : (cs l).length ≤ 40) (hw : (cs w).length = (cs l).length) : ∀ (I : List Nat) (best : Option (Int × Int)) (x5 x6 x7 : Option D), (∀ i ∈ I, i < (cs l).length) →
    ∃ y5 y6 y7, forL (.nm 5) (sSeq (sFor (.nm 6) (iOf (eC (.str "bgr"))) bO6) sNil) (I.map fun i : Nat => P.int (0 + (i : Int))) [some (.p (machP rb st)), some (.p (.int b)), some (.p (.str l)), some (.p (.str w)), some (.p (optPr best)), x5, x6, x7] M =
      .ok (.nx [some (.p (machP rb st)), some (.p (.int b)), some (.p (.str l)), some (.p (.str w)), some (.p (optPr (I.foldl (fun best i => [98, 103, 114].foldl (fun best c => offStep rb st b l w best i c) best) best))), y5, y6, y7]) M
  | [], best, x5, x6, x7, _ => ⟨x5, x6, x7, rfl⟩
  | i :: I, best, x5, x6, x7, hI => by
    obtain ⟨z6, z7, e1⟩ := off_in (rb := rb) (st := st) (b := b) (l := l) (w := w) (M := M) h hl hw (hI i List.mem_cons_self) [98, 103, 114] best x6 x7
    obtain ⟨y5, y6, y7, e⟩ := off_out h hl hw I ([98, 103, 114].foldl (fun best c => offStep rb st b l w best i c) best) (some (.p (.int (i : Int)))) z6 z7 fun j hj => hI j (List.mem_cons_of_mem _ hj)
    refine ⟨y5, y6, y7, Eq.trans (forL_nx (M2 := M) x_nm ?_) e⟩
    refine seq_ok (Eq.trans (for_ok (ps := [98, 103, 114].map fun c => P.str (sg c)) (M1 := M) ?_) ?_)
    · rfl
    · simp only [List.set_cons_succ, List.set_cons_zero, Int.zero_add]
      exact e1
theorem sp_first_off (h : MOk rb st) (hb : 0 ≤ b) (hb2 : b ≤ 2 * lenS rb - 1) (hl : LOk st l) (hw : WOk l w) :
    F_first_off [.p (machP rb st), .p (.int b), .p (.str l), .p (.str w)] M = .ok (.p (optPr (offS rb st b l w))) M := by
  unfold F_first_off
  rw [fnB4]
  refine lv_p ?_
  unfold b_first_off
  rw [seq_ok (exp_ok (d := .p .non) (M1 := M) (by simp [sp_need_all h hb hb2 hl]))]
  rw [seq_ok (exp_ok (d := .p .non) (M1 := M) (by simp [sp_need_wish hl.ll hw]))]
  rw [seq_ok (set_ok (d := .p .non) (M1 := M) rfl)]
  obtain ⟨y5, y6, y7, e⟩ := off_out (rb := rb) (st := st) (b := b) (l := l) (w := w) (M := M) h hl.le hw.len (List.range (cs l).length) none none none none fun i hi => List.mem_range.mp hi
  refine Eq.trans (seq_ok (Eq.trans (for_ok (ps := rgs 0 (cs l).length) (M1 := M) ?_) e)) (seq_rt (ret_ok rfl))
  exact rng_ok (M1 := M) (cons_ok (M1 := M) (callB_ok (ds := [.p (.str l)]) (M1 := M) (ps := [.str l]) (by simp) rfl (len_ok hl.ll)) nil_ok) hl.ll
end
end Ev

set_option linter.all false
set_option maxRecDepth 100000
set_option maxHeartbeats 4000000
/-! Spec12: lists of the store; moved_back, shared, joined. -/
namespace Ev
open PySem
theorem st_get {M : Sto} {x : MO} : (M ++ [x])[M.length]? = some x := by simp
theorem st_set {M : Sto} {x y : MO} : (M ++ [x]).set M.length y = M ++ [y] := by
  induction M with
  | nil => rfl
  | cons a r ih => simpa using ih
theorem st_take {M : Sto} {x : MO} : (M ++ [x]).take M.length = M := by simp
theorem setM_ok {i : Nat} {f : EvD} {σ : Fr} {M M1 : Sto} {ps : List P} (h : f σ M = .ok (.nw ps) M1) : sSetM i f σ M = .ok (.nx (σ.set i (some (.loc M1.length)))) (M1 ++ [.lst ps]) := by
  unfold sSetM
  rw [h]
  rfl
theorem app_ok {i : Nat} {fs : EvA} {σ : Fr} {M : Sto} {ps : List P} {q : P} (h1 : σ[i]? = some (some (.loc M.length))) (h2 : fs σ (M ++ [.lst ps]) = .ok [.p q] (M ++ [.lst ps])) (h3 : ps.length < lim) :
    sExpr (eLm appK (eVar i) fs) σ (M ++ [.lst ps]) = .ok (.nx σ) (M ++ [.lst (ps ++ [q])]) := by
  refine exp_ok (d := .p .non) ?_
  unfold eLm
  simp only [x_eVar, h1, Out.bind, st_get]
  rw [h2]
  simp only [appK, st_get, if_pos h3, st_set]
theorem ext_ok {i : Nat} {fs : EvA} {σ : Fr} {M : Sto} {ps qs : List P} (h1 : σ[i]? = some (some (.loc M.length))) (h2 : fs σ (M ++ [.lst ps]) = .ok [.p (.lst qs)] (M ++ [.lst ps])) (h3 : ps.length + qs.length ≤ lim) :
    sExpr (eLm extK (eVar i) fs) σ (M ++ [.lst ps]) = .ok (.nx σ) (M ++ [.lst (ps ++ qs)]) := by
  refine exp_ok (d := .p .non) ?_
  unfold eLm
  simp only [x_eVar, h1, Out.bind, st_get]
  rw [h2]
  simp only [extK, st_get, if_pos h3, st_set]
theorem lv_l {b : EvS} {σ : Fr} {M : Sto} {ps : List P} (h : b σ M = .ok (.rt (.loc M.length)) (M ++ [.lst ps])) : leave M.length (b σ M) = .ok (.nw ps) M := by
  rw [h]
  simp only [leave, Nat.lt_irrefl, if_false, st_get, st_take]
theorem tu2 {a b : Nat} {p q : P} {σ : Fr} : tgA (.tu [.nm a, .nm b]) (.tup [p, q]) σ = some ((σ.set a (some (.p p))).set b (some (.p q))) := by simp
def movedR (by_ R : Int) (a : Int × Int) : List (Int × Int) :=
  if (a.1 - by_) % R + a.2 - a.1 < R then [((a.1 - by_) % R, (a.1 - by_) % R + a.2 - a.1)] else [((a.1 - by_) % R, R - 1), (0, (a.1 - by_) % R + a.2 - a.1 - R)]
def movedS (by_ R : Int) (L : List (Int × Int)) : List (Int × Int) := L.flatMap (movedR by_ R)
def bM : EvS := (sSeq (sSet 6 (eBin oMod (eBin oSub (eVar 4) (eVar 1)) (eVar 2)))
    (sSeq (sSet 7 (eBin oSub (eBin oAdd (eVar 6) (eVar 5)) (eVar 4)))
    (sSeq (sIf (bOf (eBin oLt (eVar 7) (eVar 2))) (sSeq (sExpr (eLm appK (eVar 3) (aCons (eTup (aCons (eVar 6) (aCons (eVar 7) aNil))) aNil)))
    sNil) (sSeq (sExpr (eLm extK (eVar 3) (aCons (eLst (aCons (eTup (aCons (eVar 6) (aCons (eBin oSub (eVar 2) (eC (.int 1))) aNil))) (aCons (eTup (aCons (eC (.int 0)) (aCons (eBin oSub (eVar 7) (eVar 2)) aNil))) aNil))) aNil)))
    sNil))
    sNil)))
theorem two_lim : 2 ≤ lim := Nat.le_trans (by decide) lim_big
theorem bM_ok {r0 : Option D} {by_ R f l : Int} {x6 x7 : Option D} {M : Sto} {acc : List (Int × Int)} (hR : 0 < R) (hl : acc.length + (movedR by_ R (f, l)).length ≤ lim) :
    ∃ y6 y7, bM [r0, some (.p (.int by_)), some (.p (.int R)), some (.loc M.length), some (.p (.int f)), some (.p (.int l)), x6, x7] (M ++ [.lst (acc.map prP)]) =
      .ok (.nx [r0, some (.p (.int by_)), some (.p (.int R)), some (.loc M.length), some (.p (.int f)), some (.p (.int l)), y6, y7]) (M ++ [.lst ((acc ++ movedR by_ R (f, l)).map prP)]) := by
  have l2 := two_lim
  generalize hz : (f - by_) % R = z
  refine ⟨some (.p (.int z)), some (.p (.int (z + l - f))), ?_⟩
  unfold bM
  unfold movedR at hl ⊢
  dsimp only at hl ⊢
  rw [hz] at hl ⊢
  refine Eq.trans (seq_ok (set_ok (d := .p (.int z)) (M1 := M ++ [MO.lst (acc.map prP)]) (bin_ok (d1 := .p (.int (f - by_))) (d2 := .p (.int R)) (M1 := M ++ [MO.lst (acc.map prP)]) rfl rfl rfl rfl (by rw [o_mod_i hR, hz])))) ?_
  refine Eq.trans (seq_ok (set_ok (d := .p (.int (z + l - f))) (M1 := M ++ [MO.lst (acc.map prP)]) rfl)) ?_
  by_cases h : z + l - f < R
  · rw [if_pos h] at hl ⊢
    refine Eq.trans (seq_ok (Eq.trans (if_t (M1 := M ++ [MO.lst (acc.map prP)]) ?_) (seq_ok (app_ok (q := prP (z, z + l - f)) rfl ?_ ?_)))) ?_
    · show Out.ok (decide (z + l - f < R)) _ = _
      rw [decide_eq_true h]
    · simp [l2, prP]
    · simp only [List.length_map, List.length_cons, List.length_nil] at hl ⊢; omega
    · rw [List.map_append]; rfl
  · rw [if_neg h] at hl ⊢
    refine Eq.trans (seq_ok (Eq.trans (if_f (M1 := M ++ [MO.lst (acc.map prP)]) ?_) (seq_ok (ext_ok (qs := [prP (z, R - 1), prP (0, z + l - f - R)]) rfl ?_ ?_)))) ?_
    · show Out.ok (decide (z + l - f < R)) _ = _
      rw [decide_eq_false h]
    · simp [l2, prP]
    · simp only [List.length_map, List.length_cons, List.length_nil] at hl ⊢; omega
    · rw [List.map_append]; rfl
theorem moved_loop {r0 : Option D} {by_ R : Int} {M : Sto} (hR : 0 < R) : ∀ (L acc : List (Int × Int)) (x4 x5 x6 x7 : Option D), acc.length + (movedS by_ R L).length ≤ lim →
    ∃ y4 y5 y6 y7, forL (.tu [.nm 4, .nm 5]) bM (L.map prP) [r0, some (.p (.int by_)), some (.p (.int R)), some (.loc M.length), x4, x5, x6, x7] (M ++ [.lst (acc.map prP)]) =
      .ok (.nx [r0, some (.p (.int by_)), some (.p (.int R)), some (.loc M.length), y4, y5, y6, y7]) (M ++ [.lst ((acc ++ movedS by_ R L).map prP)])
  | [], acc, x4, x5, x6, x7, _ => ⟨x4, x5, x6, x7, by simp [movedS, forL_nil]⟩
  | a :: L, acc, x4, x5, x6, x7, hl => by
    have e0 : movedS by_ R (a :: L) = movedR by_ R a ++ movedS by_ R L := by simp [movedS]
    rw [e0, List.length_append] at hl
    obtain ⟨z6, z7, e1⟩ := bM_ok (r0 := r0) (x6 := x6) (x7 := x7) (M := M) (f := a.1) (l := a.2) (acc := acc) (by_ := by_) hR (by show acc.length + (movedR by_ R a).length ≤ lim; omega)
    obtain ⟨y4, y5, y6, y7, e2⟩ := moved_loop (r0 := r0) (M := M) (by_ := by_) hR L (acc ++ movedR by_ R a) (some (.p (.int a.1))) (some (.p (.int a.2))) z6 z7 (by rw [List.length_append]; omega)
    refine ⟨y4, y5, y6, y7, ?_⟩
    rw [e0, ← List.append_assoc]
    exact Eq.trans (forL_nx tu2 e1) e2
theorem sp_moved_back {by_ R : Int} {L : List (Int × Int)} {M : Sto} (hR : 0 < R) (hl : (movedS by_ R L).length ≤ lim) :
    F_moved_back [.p (.lst (L.map prP)), .p (.int by_), .p (.int R)] M = .ok (.nw ((movedS by_ R L).map prP)) M := by
  unfold F_moved_back
  rw [fnB3]
  refine lv_l ?_
  unfold b_moved_back
  obtain ⟨y4, y5, y6, y7, e⟩ := moved_loop (r0 := some (.p (.lst (L.map prP)))) (M := M) (by_ := by_) hR L [] none none none none (by simpa using hl)
  refine Eq.trans (seq_ok (setM_ok (M1 := M) (ps := []) ?_)) ?_
  · simp
  refine Eq.trans (seq_ok (Eq.trans (for_ok (ps := L.map prP) (M1 := M ++ [MO.lst (([] : List (Int × Int)).map prP)]) rfl) e)) (seq_rt (ret_ok rfl))
def maxI (i j : Int) : Int := if j > i then j else i
def minI (i j : Int) : Int := if j < i then j else i
def shareR (a b : Int × Int) : Option (Int × Int) := if maxI a.1 b.1 ≤ minI a.2 b.2 then some (maxI a.1 b.1, minI a.2 b.2) else none
def sharedS (A B : List (Int × Int)) : List (Int × Int) := A.flatMap fun a => B.filterMap (shareR a)
def bS5 : EvS := (sSeq (sIf (bOf (eBin oLe (eCB cMax (aCons (eVar 3) (aCons (eVar 5) aNil))) (eCB cMin (aCons (eVar 4) (aCons (eVar 6) aNil))))) (sSeq (sExpr (eLm appK (eVar 2) (aCons (eTup (aCons (eCB cMax (aCons (eVar 3) (aCons (eVar 5) aNil))) (aCons (eCB cMin (aCons (eVar 4) (aCons (eVar 6) aNil))) aNil))) aNil)))
    sNil) sNil)
    sNil)
theorem bS5_ok {r0 r1 : Option D} {a b : Int × Int} {M : Sto} {acc : List (Int × Int)} (hl : acc.length < lim ∨ shareR a b = none) :
    bS5 [r0, r1, some (.loc M.length), some (.p (.int a.1)), some (.p (.int a.2)), some (.p (.int b.1)), some (.p (.int b.2))] (M ++ [.lst (acc.map prP)]) =
      .ok (.nx [r0, r1, some (.loc M.length), some (.p (.int a.1)), some (.p (.int a.2)), some (.p (.int b.1)), some (.p (.int b.2))]) (M ++ [.lst ((acc ++ (shareR a b).toList).map prP)]) := by
  have l2 := two_lim
  unfold bS5
  unfold shareR at hl ⊢
  by_cases h : maxI a.1 b.1 ≤ minI a.2 b.2
  · rw [if_pos h] at hl ⊢
    have hl : acc.length < lim := by rcases hl with z | z; exact z; cases z
    refine Eq.trans (seq_ok (Eq.trans (if_t (M1 := M ++ [MO.lst (acc.map prP)]) ?_) (seq_ok (app_ok (q := prP (maxI a.1 b.1, minI a.2 b.2)) rfl ?_ ?_)))) ?_
    · show Out.ok (decide (maxI a.1 b.1 ≤ minI a.2 b.2)) _ = _
      rw [decide_eq_true h]
    · simp [l2, prP, cMax, cMin, maxI, minI]
    · simpa using hl
    · rw [List.map_append]; rfl
  · rw [if_neg h]
    refine Eq.trans (seq_ok (Eq.trans (if_f (M1 := M ++ [MO.lst (acc.map prP)]) ?_) rfl)) ?_
    · show Out.ok (decide (maxI a.1 b.1 ≤ minI a.2 b.2)) _ = _
      rw [decide_eq_false h]
    · rw [Option.toList, List.append_nil]; rfl
theorem shared_in {r0 r1 : Option D} {a : Int × Int} {M : Sto} : ∀ (B acc : List (Int × Int)) (x5 x6 : Option D), acc.length + (B.filterMap (shareR a)).length ≤ lim →
    ∃ y5 y6, forL (.tu [.nm 5, .nm 6]) bS5 (B.map prP) [r0, r1, some (.loc M.length), some (.p (.int a.1)), some (.p (.int a.2)), x5, x6] (M ++ [.lst (acc.map prP)]) =
      .ok (.nx [r0, r1, some (.loc M.length), some (.p (.int a.1)), some (.p (.int a.2)), y5, y6]) (M ++ [.lst ((acc ++ B.filterMap (shareR a)).map prP)])
  | [], acc, x5, x6, _ => ⟨x5, x6, by simp [forL_nil]⟩
  | b :: B, acc, x5, x6, hl => by
    have e0 : (b :: B).filterMap (shareR a) = (shareR a b).toList ++ B.filterMap (shareR a) := by
      rw [List.filterMap_cons]; cases shareR a b <;> rfl
    rw [e0, List.length_append] at hl
    have e1 := bS5_ok (r0 := r0) (r1 := r1) (a := a) (b := b) (M := M) (acc := acc) (by
      cases hs : shareR a b with
      | none => exact .inr rfl
      | some y => rw [hs] at hl; simp at hl; exact .inl (by omega))
    obtain ⟨y5, y6, e2⟩ := shared_in (r0 := r0) (r1 := r1) (M := M) (a := a) B (acc ++ (shareR a b).toList) (some (.p (.int b.1))) (some (.p (.int b.2))) (by rw [List.length_append]; omega)
    refine ⟨y5, y6, ?_⟩
    rw [e0, ← List.append_assoc]
    exact Eq.trans (forL_nx tu2 e1) e2
theorem shared_out {r0 : Option D} {B : List (Int × Int)} {M : Sto} : ∀ (A acc : List (Int × Int)) (x3 x4 x5 x6 : Option D), acc.length + (sharedS A B).length ≤ lim →
    ∃ y3 y4 y5 y6, forL (.tu [.nm 3, .nm 4]) (sSeq (sFor (.tu [.nm 5, .nm 6]) (iOf (eVar 1)) bS5) sNil) (A.map prP) [r0, some (.p (.lst (B.map prP))), some (.loc M.length), x3, x4, x5, x6] (M ++ [.lst (acc.map prP)]) =
      .ok (.nx [r0, some (.p (.lst (B.map prP))), some (.loc M.length), y3, y4, y5, y6]) (M ++ [.lst ((acc ++ sharedS A B).map prP)])
  | [], acc, x3, x4, x5, x6, _ => ⟨x3, x4, x5, x6, by simp [sharedS, forL_nil]⟩
  | a :: A, acc, x3, x4, x5, x6, hl => by
    have e0 : sharedS (a :: A) B = B.filterMap (shareR a) ++ sharedS A B := by simp [sharedS]
    rw [e0, List.length_append] at hl
    obtain ⟨z5, z6, e1⟩ := shared_in (r0 := r0) (r1 := some (.p (.lst (B.map prP)))) (a := a) (M := M) B acc x5 x6 (by omega)
    obtain ⟨y3, y4, y5, y6, e2⟩ := shared_out (r0 := r0) (M := M) (B := B) A (acc ++ B.filterMap (shareR a)) (some (.p (.int a.1))) (some (.p (.int a.2))) z5 z6 (by rw [List.length_append]; omega)
    refine ⟨y3, y4, y5, y6, ?_⟩
    rw [e0, ← List.append_assoc]
    refine Eq.trans (forL_nx tu2 (seq_ok (Eq.trans (for_ok (ps := B.map prP) (M1 := M ++ [MO.lst (acc.map prP)]) rfl) e1))) e2
theorem sp_shared {A B : List (Int × Int)} {M : Sto} (hl : (sharedS A B).length ≤ lim) :
    F_shared [.p (.lst (A.map prP)), .p (.lst (B.map prP))] M = .ok (.nw ((sharedS A B).map prP)) M := by
  unfold F_shared
  rw [fnB2]
  refine lv_l ?_
  unfold b_shared
  obtain ⟨y3, y4, y5, y6, e⟩ := shared_out (r0 := some (.p (.lst (A.map prP)))) (M := M) (B := B) A [] none none none none (by simpa using hl)
  refine Eq.trans (seq_ok (setM_ok (M1 := M) (ps := []) ?_)) ?_
  · simp
  refine Eq.trans (seq_ok (Eq.trans (for_ok (ps := A.map prP) (M1 := M ++ [MO.lst (([] : List (Int × Int)).map prP)]) rfl) e)) (seq_rt (ret_ok rfl))
end Ev

set_option linter.all false
set_option maxRecDepth 100000
set_option maxHeartbeats 4000000
/-! Spec13: joined, begins_for. -/
namespace Ev
open PySem
theorem pairsOf_map : ∀ L : List (Int × Int), pairsOf (L.map prP) = some L
  | [] => rfl
  | a :: L => by
    rw [List.map_cons]
    show (pairsOf (L.map prP)).map _ = _
    rw [pairsOf_map L]; rfl
theorem cSorted_map (L : List (Int × Int)) : cSorted [.lst (L.map prP)] = some (.nw ((sortP L).map prP)) := by
  show (pairsOf (L.map prP)).map _ = _
  rw [pairsOf_map]; rfl
def prD (x : Int × Int) : PyData := .tuple [.int x.1, .int x.2]
theorem toPyL_prs : ∀ L : List (Int × Int), toPyL (L.map prP) = some (L.map prD)
  | [] => by simp [toPyL]
  | a :: r => by simp [toPyL, toPy, prP, prD, toPyL_prs r]
theorem canLay_prs : ∀ L : List (Int × Int), PyData.canLayAll0 (L.map prD) = true
  | [] => by simp only [List.map_nil, PyData.canLayAll0]
  | a :: r => by simp only [List.map_cons, prD, PyData.canLayAll0, PyData.canLay0, Bool.and_self]; exact canLay_prs r
theorem depth_prs : ∀ L : List (Int × Int), PyData.depthAll (L.map prD) ≤ 10
  | [] => by simp [PyData.depthAll]
  | a :: r => by
    have := depth_prs r
    simp only [List.map_cons, prD, PyData.depthAll, PyData.depth]
    omega
theorem oNe_prs_nil (L : List (Int × Int)) : oNe (.lst (L.map prP)) (.lst []) = some (.p (.bl (!decide (L = [])))) := by
  have e1 : toPy (.lst (L.map prP)) = some (.list (L.map prD)) := by simp [toPy, toPyL_prs]
  have e2 : toPy (.lst []) = some (.list []) := by simp [toPy, toPyL]
  have s1 : SeqAt.shaped (.list (L.map prD)) = true := by
    unfold SeqAt.shaped
    have := depth_prs L
    rw [PyData.canLay0, canLay_prs, PyData.depth]
    simp
    omega
  have s2 : SeqAt.shaped (.list []) = true := by decide +kernel
  have e3 : PyData.eqv (.list (L.map prD)) (.list []) = decide (L = []) := by
    cases L with
    | nil => simp [PyData.eqv, PyData.eqvAll]
    | cons a r => simp [PyData.eqv, PyData.eqvAll]
  have e4 : eqB (.lst (L.map prP)) (.lst []) = (match toPy (.lst (L.map prP)), toPy (.lst []) with
    | some d, some e => if SeqAt.shaped d && SeqAt.shaped e then some (PyData.eqv d e) else none
    | _, _ => none) := rfl
  unfold oNe
  rw [e4, e1, e2]
  dsimp only
  rw [s1, s2, e3]
  rfl
def joinStep (acc : List (Int × Int)) (a : Int × Int) : List (Int × Int) := match acc.getLast? with
  | none => acc ++ [a]
  | some z => if z.2 + 1 ≥ a.1 then acc.dropLast ++ [(z.1, maxI z.2 a.2)] else acc ++ [a]
def joinedS (L : List (Int × Int)) : List (Int × Int) := (sortP L).foldl joinStep []
theorem sortP_length (L : List (Int × Int)) : (sortP L).length = L.length := (sortP_perm L).length_eq
theorem joinStep_length (acc : List (Int × Int)) (a : Int × Int) : (joinStep acc a).length ≤ acc.length + 1 := by
  unfold joinStep
  cases h : acc.getLast? with
  | none => simp
  | some z =>
    dsimp only
    split <;> simp <;> omega
theorem ixLast {n : Nat} : L2.ixN (n + 1) (-1) = some n := by
  unfold L2.ixN
  rw [if_neg (by omega), if_pos (by omega)]
  congr 1
  omega
theorem oIxL {ps : List P} {p : P} : oIx (.lst (ps ++ [p])) (.int (-1)) = some (.p p) := by
  show (L2.atI (ps ++ [p]) (-1)).map _ = _
  have : L2.atI (ps ++ [p]) (-1) = some p := by
    unfold L2.atI
    rw [List.length_append, List.length_singleton, ixLast]
    simp
  rw [this]; rfl
def cJ : EvB := (bAnd (bOf (eBin oNe (eVar 1) (eLst aNil))) (bOf (eBin oGe (eBin oAdd (eBin oIx (eBin oIx (eVar 1) (eNeg (eC (.int 1)))) (eC (.int 1))) (eC (.int 1))) (eVar 2))))
def bJ : EvS := (sSeq (sIf cJ (sSeq (sSub (eTup (aCons (eBin oIx (eBin oIx (eVar 1) (eNeg (eC (.int 1)))) (eC (.int 0))) (aCons (eCB cMax (aCons (eBin oIx (eBin oIx (eVar 1) (eNeg (eC (.int 1)))) (eC (.int 1))) (aCons (eVar 3) aNil))) aNil))) (eVar 1) (eNeg (eC (.int 1))))
    sNil) (sSeq (sExpr (eLm appK (eVar 1) (aCons (eTup (aCons (eVar 2) (aCons (eVar 3) aNil))) aNil)))
    sNil))
    sNil)
theorem set_last {ps : List P} {p q : P} : (ps ++ [p]).set ps.length q = ps ++ [q] := by
  induction ps with
  | nil => rfl
  | cons a r ih => simpa using ih
theorem bJ_ok {r0 : Option D} {a : Int × Int} {M : Sto} {acc : List (Int × Int)} (hl : acc.length < lim) :
    bJ [r0, some (.loc M.length), some (.p (.int a.1)), some (.p (.int a.2))] (M ++ [.lst (acc.map prP)]) =
      .ok (.nx [r0, some (.loc M.length), some (.p (.int a.1)), some (.p (.int a.2))]) (M ++ [.lst ((joinStep acc a).map prP)]) := by
  have l2 := two_lim
  have hne := oNe_prs_nil acc
  unfold bJ
  rcases List.eq_nil_or_concat acc with z | ⟨r, z, e⟩
  · subst z
    refine Eq.trans (seq_ok (Eq.trans (if_f (M1 := M ++ [MO.lst (([] : List (Int × Int)).map prP)]) ?_) (seq_ok (app_ok (q := prP a) rfl ?_ (by simpa using hl))))) ?_
    · unfold cJ
      rw [x_bAnd, x_bOf, bin_ok (d1 := .loc M.length) (d2 := .nw []) (M1 := M ++ [MO.lst (([] : List (Int × Int)).map prP)]) (M2 := M ++ [MO.lst (([] : List (Int × Int)).map prP)]) rfl (by simp) (by rw [x_getl, st_get]) rfl hne]
      rfl
    · simp [l2, prP]
    · rfl
  · rw [List.concat_eq_append] at e
    subst e
    have hm : (r ++ [z]).map prP = r.map prP ++ [prP z] := by simp
    have i1 : ∀ σ : Fr, σ[1]? = some (some (.loc M.length)) → eBin oIx (eVar 1) (eNeg (eC (.int 1))) σ (M ++ [MO.lst ((r ++ [z]).map prP)]) = .ok (.p (prP z)) (M ++ [MO.lst ((r ++ [z]).map prP)]) := by
      intro σ h1
      refine bin_ok (d1 := .loc M.length) (d2 := .p (.int (-1))) (M1 := M ++ [MO.lst ((r ++ [z]).map prP)]) ?_ rfl (by rw [x_getl, st_get]) rfl (by rw [hm]; exact oIxL)
      rw [x_eVar, h1]
    have i2 : ∀ σ : Fr, σ[1]? = some (some (.loc M.length)) → eBin oIx (eBin oIx (eVar 1) (eNeg (eC (.int 1)))) (eC (.int 1)) σ (M ++ [MO.lst ((r ++ [z]).map prP)]) = .ok (.p (.int z.2)) (M ++ [MO.lst ((r ++ [z]).map prP)]) := fun σ h1 =>
      bin_ok (d1 := .p (prP z)) (d2 := .p (.int 1)) (M1 := M ++ [MO.lst ((r ++ [z]).map prP)]) (i1 σ h1) rfl rfl rfl oIx1
    have i3 : ∀ σ : Fr, σ[1]? = some (some (.loc M.length)) → eBin oIx (eBin oIx (eVar 1) (eNeg (eC (.int 1)))) (eC (.int 0)) σ (M ++ [MO.lst ((r ++ [z]).map prP)]) = .ok (.p (.int z.1)) (M ++ [MO.lst ((r ++ [z]).map prP)]) := fun σ h1 =>
      bin_ok (d1 := .p (prP z)) (d2 := .p (.int 0)) (M1 := M ++ [MO.lst ((r ++ [z]).map prP)]) (i1 σ h1) rfl rfl rfl oIx0
    have hc : cJ [r0, some (.loc M.length), some (.p (.int a.1)), some (.p (.int a.2))] (M ++ [MO.lst ((r ++ [z]).map prP)]) = .ok (decide (a.1 ≤ z.2 + 1)) (M ++ [MO.lst ((r ++ [z]).map prP)]) := by
      unfold cJ
      rw [x_bAnd, x_bOf, bin_ok (d1 := .loc M.length) (d2 := .nw []) (M1 := M ++ [MO.lst ((r ++ [z]).map prP)]) (M2 := M ++ [MO.lst ((r ++ [z]).map prP)]) rfl (by simp) (by rw [x_getl, st_get]) rfl hne]
      rw [decide_eq_false (by simp)]
      simp only [Out.bind, Bool.not_false, if_true]
      rw [x_bOf, bin_ok (d1 := .p (.int (z.2 + 1))) (d2 := .p (.int a.1)) (M1 := M ++ [MO.lst ((r ++ [z]).map prP)]) (M2 := M ++ [MO.lst ((r ++ [z]).map prP)]) (bin_ok (d1 := .p (.int z.2)) (d2 := .p (.int 1)) (M1 := M ++ [MO.lst ((r ++ [z]).map prP)]) (i2 _ rfl) rfl rfl rfl rfl) rfl rfl rfl o_ge_i]
      rfl
    have hj : joinStep (r ++ [z]) a = if z.2 + 1 ≥ a.1 then r ++ [(z.1, maxI z.2 a.2)] else (r ++ [z]) ++ [a] := by
      unfold joinStep
      rw [List.getLast?_append, List.getLast?_singleton]
      simp
    rw [hj]
    by_cases h : a.1 ≤ z.2 + 1
    · rw [if_pos h]
      refine Eq.trans (seq_ok (Eq.trans (if_t (M1 := M ++ [MO.lst ((r ++ [z]).map prP)]) (by rw [hc, decide_eq_true h])) (seq_ok (σ1 := [r0, some (.loc M.length), some (.p (.int a.1)), some (.p (.int a.2))]) (M1 := M ++ [MO.lst ((r ++ [(z.1, maxI z.2 a.2)]).map prP)]) ?_))) ?_
      · unfold sSub
        have t1 : eTup (aCons (eBin oIx (eBin oIx (eVar 1) (eNeg (eC (.int 1)))) (eC (.int 0))) (aCons (eCB cMax (aCons (eBin oIx (eBin oIx (eVar 1) (eNeg (eC (.int 1)))) (eC (.int 1))) (aCons (eVar 3) aNil))) aNil)) [r0, some (.loc M.length), some (.p (.int a.1)), some (.p (.int a.2))] (M ++ [MO.lst ((r ++ [z]).map prP)]) = .ok (.p (prP (z.1, maxI z.2 a.2))) (M ++ [MO.lst ((r ++ [z]).map prP)]) := by
          rw [x_eTup, x_aCons, i3 _ rfl]
          have c1 : eCB cMax (aCons (eBin oIx (eBin oIx (eVar 1) (eNeg (eC (.int 1)))) (eC (.int 1))) (aCons (eVar 3) aNil)) [r0, some (.loc M.length), some (.p (.int a.1)), some (.p (.int a.2))] (M ++ [MO.lst ((r ++ [z]).map prP)]) = .ok (.p (.int (maxI z.2 a.2))) (M ++ [MO.lst ((r ++ [z]).map prP)]) :=
            callB_ok (ds := [.p (.int z.2), .p (.int a.2)]) (M1 := M ++ [MO.lst ((r ++ [z]).map prP)]) (ps := [.int z.2, .int a.2]) (cons_ok (i2 _ rfl) (cons_ok (d := .p (.int a.2)) rfl nil_ok)) rfl rfl
          simp only [Out.bind]
          rw [x_aCons, c1]
          simp [l2, prP]
        rw [t1]
        simp only [OutS, Out.toS, x_eVar, x_eNeg, x_eC, Out.bind, List.getElem?_cons_succ, List.getElem?_cons_zero]
        simp only [x_val, st_get, hm, List.length_append, List.length_singleton, ixLast, st_set]
        rw [set_last]
        simp
      · rfl
    · rw [if_neg h]
      refine Eq.trans (seq_ok (Eq.trans (if_f (M1 := M ++ [MO.lst ((r ++ [z]).map prP)]) (by rw [hc, decide_eq_false h])) (seq_ok (app_ok (q := prP a) rfl ?_ (by simpa using hl))))) ?_
      · simp [l2, prP]
      · rw [List.map_append (l₂ := [a])]; rfl
theorem joined_loop {r0 : Option D} {M : Sto} : ∀ (L acc : List (Int × Int)) (x2 x3 : Option D), acc.length + L.length ≤ lim →
    ∃ y2 y3, forL (.tu [.nm 2, .nm 3]) bJ (L.map prP) [r0, some (.loc M.length), x2, x3] (M ++ [.lst (acc.map prP)]) =
      .ok (.nx [r0, some (.loc M.length), y2, y3]) (M ++ [.lst ((L.foldl joinStep acc).map prP)])
  | [], acc, x2, x3, _ => ⟨x2, x3, by simp [forL_nil]⟩
  | a :: L, acc, x2, x3, hl => by
    rw [List.length_cons] at hl
    have e1 := bJ_ok (r0 := r0) (a := a) (M := M) (acc := acc) (by omega)
    obtain ⟨y2, y3, e2⟩ := joined_loop (r0 := r0) (M := M) L (joinStep acc a) (some (.p (.int a.1))) (some (.p (.int a.2))) (by have := joinStep_length acc a; omega)
    exact ⟨y2, y3, Eq.trans (forL_nx tu2 e1) e2⟩
theorem sp_joined {L : List (Int × Int)} {M : Sto} (hl : L.length ≤ lim) : F_joined [.p (.lst (L.map prP))] M = .ok (.nw ((joinedS L).map prP)) M := by
  unfold F_joined
  rw [fnB1]
  refine lv_l ?_
  unfold b_joined
  obtain ⟨y2, y3, e⟩ := joined_loop (r0 := some (.p (.lst (L.map prP)))) (M := M) (sortP L) [] none none (by rw [sortP_length]; simpa using hl)
  refine Eq.trans (seq_ok (setM_ok (M1 := M) (ps := []) ?_)) ?_
  · simp
  refine Eq.trans (seq_ok (Eq.trans (for_ok (ps := (sortP L).map prP) (M1 := M ++ [MO.lst (([] : List (Int × Int)).map prP)]) ?_) e)) (seq_rt (ret_ok rfl))
  rw [x_iOf, callB_ok (ds := [.p (.lst (L.map prP))]) (ps := [.lst (L.map prP)]) (M1 := M ++ [MO.lst (([] : List (Int × Int)).map prP)]) rfl rfl (cSorted_map L)]
  rfl
theorem joinedS_length (L : List (Int × Int)) : (joinedS L).length ≤ L.length := by
  have : ∀ (L acc : List (Int × Int)), (L.foldl joinStep acc).length ≤ acc.length + L.length := by
    intro L
    induction L with
    | nil => intro acc; simp
    | cons a r ih => intro acc; have := ih (joinStep acc a); have := joinStep_length acc a; simp only [List.foldl_cons, List.length_cons]; omega
  have := this (sortP L) []
  rw [sortP_length] at this
  unfold joinedS
  simpa using this
end Ev

set_option linter.all false
set_option maxRecDepth 100000
set_option maxHeartbeats 4000000
/-! Spec14: begins_for, ahead, blind_steps. -/
namespace Ev
open PySem
theorem movedS_length {by_ R : Int} : ∀ L : List (Int × Int), (movedS by_ R L).length ≤ 2 * L.length
  | [] => by simp [movedS]
  | a :: L => by
    have e0 : movedS by_ R (a :: L) = movedR by_ R a ++ movedS by_ R L := by simp [movedS]
    have h1 := movedS_length (by_ := by_) (R := R) L
    have h2 : (movedR by_ R a).length ≤ 2 := by unfold movedR; split <;> simp
    rw [e0, List.length_append, List.length_cons]
    omega
theorem enum_s {w : Str} {fs : EvA} {σ : Fr} {M M1 : Sto} (h : fs σ M = .ok [.p (.str w)] M1) : iEnum fs σ M = .ok ((cs w).zipIdx.map fun x => P.tup [.int (x.2 : Nat), .str (sg x.1)]) M1 := by
  unfold iEnum
  rw [h]
  show Out.ok (((chars w).zipIdx).map fun x => P.tup [.int (x.2 : Nat), x.1]) M1 = _
  congr 1
  unfold chars
  rw [List.zipIdx_map, List.map_map]
  rfl
theorem dot_sg : (".": Str) = sg 46 := by rfl
theorem bgrdot : oAdd (.str "bgr") (.str ".") = some (.p (.str ⟨#[98, 103, 114, 46]⟩)) := by rfl
section
variable {rb : List (Str × Int)} {st : List Int} {l w : Str} {M : Sto}
theorem sp_steps_cut {σ : Fr} {i : Nat} {a b c : Nat} (h : MOk rb st) (hl : (cs l).length ≤ lim) (h0 : σ[a]? = some (some (.p (machP rb st)))) (h1 : σ[b]? = some (some (.p (.str l)))) (h2 : σ[c]? = some (some (.p (.int (i : Int))))) :
    eCall 2 F_steps_by (aCons (eVar a) (aCons (eSl (eVar b) sNone (sSome (eVar c))) aNil)) σ M = .ok (.p (.int (stepsS st ((cs l).take i)))) M := by
  have hc : (cs (L2.cutS l none (some (i : Int)))).length ≤ lim := by rw [cutS_take, List.length_take]; omega
  have e2 := sp_steps_by (M := M) h hc
  rw [cutS_take] at e2
  refine call_ok (n := 2) (M1 := M) (cons_ok (d := .p (machP rb st)) (M1 := M) (by rw [x_eVar, h0]) (cons_ok (d := .p (.str (L2.cutS l none (some (i : Int))))) (M1 := M) (eSl_ok (d := .p (.str l)) (M1 := M) (M2 := M) (M3 := M) (l := none) (u := some (i : Int)) (by rw [x_eVar, h1]) rfl (by simp [sSome, h2]) rfl (oSl_s hl)) nil_ok)) rfl e2
def reachS (rb : List (Str × Int)) (st : List Int) (l : Str) (x : Nat × Nat) : List (Int × Int) := joinedS (movedS (stepsS st ((cs l).take x.2)) (2 * lenS rb) (arcsS rb (sg x.1)))
def begStep (rb : List (Str × Int)) (st : List Int) (l : Str) (here : List (Int × Int)) (x : Nat × Nat) : List (Int × Int) :=
  if x.1 = 46 then here else joinedS (sharedS here (reachS rb st l x))
def begLen (rb : List (Str × Int)) (st : List Int) (l : Str) : List (Nat × Nat) → List (Int × Int) → Prop
  | [], _ => True
  | x :: r, here => (x.1 ≠ 46 → (sharedS here (reachS rb st l x)).length ≤ lim) ∧ begLen rb st l r (begStep rb st l here x)
def bB : EvS := (sSeq (sIf (bOf (eBin oNe (eVar 6) (eC (.str ".")))) (sSeq (sSet 7 (eCall 3 F_moved_back (aCons (eCall 2 F_arcs_of (aCons (eVar 0) (aCons (eVar 6) aNil))) (aCons (eCall 2 F_steps_by (aCons (eVar 0) (aCons (eSl (eVar 1) sNone (sSome (eVar 5))) aNil))) (aCons (eVar 3) aNil)))))
    (sSeq (sSet 4 (eCall 1 F_joined (aCons (eCall 2 F_shared (aCons (eVar 4) (aCons (eCall 1 F_joined (aCons (eVar 7) aNil)) aNil))) aNil)))
    sNil)) sNil)
    sNil)
theorem bB_ok {r2 x7 : Option D} {here : List (Int × Int)} {i c : Nat} (h : MOk rb st) (hl : (cs l).length ≤ lim) (hn : c ≠ 46 → (sharedS here (reachS rb st l (c, i))).length ≤ lim) :
    ∃ y7, bB [some (.p (machP rb st)), some (.p (.str l)), r2, some (.p (.int (2 * lenS rb))), some (.p (.lst (here.map prP))), some (.p (.int (i : Int))), some (.p (.str (sg c))), x7] M =
      .ok (.nx [some (.p (machP rb st)), some (.p (.str l)), r2, some (.p (.int (2 * lenS rb))), some (.p (.lst ((begStep rb st l here (c, i)).map prP))), some (.p (.int (i : Int))), some (.p (.str (sg c))), y7]) M := by
  obtain ⟨rg1, rg2⟩ := h.ring
  have hb := lim_big
  unfold bB begStep
  have hc : ∀ σ : Fr, σ[6]? = some (some (.p (.str (sg c)))) → bOf (eBin oNe (eVar 6) (eC (.str "."))) σ M = .ok (!decide (c = 46)) M := by
    intro σ h6
    rw [x_bOf, bin_ok (d1 := .p (.str (sg c))) (d2 := .p (.str ".")) (M1 := M) (M2 := M) (by rw [x_eVar, h6]) rfl rfl rfl o_ne_s]
    have : (sg c = ".") ↔ c = 46 := by rw [dot_sg]; exact sg_inj
    simp only [Out.bind, this]
  by_cases z : c = 46
  · refine ⟨x7, ?_⟩
    rw [if_pos z]
    refine Eq.trans (seq_ok (Eq.trans (if_f (M1 := M) ?_) rfl)) rfl
    rw [hc _ rfl, decide_eq_true z]
    rfl
  · rw [if_neg z]
    have al := arcs_len (col := sg c) h
    have ml := movedS_length (by_ := stepsS st ((cs l).take i)) (R := 2 * lenS rb) (arcsS rb (sg c))
    have jl := joinedS_length (movedS (stepsS st ((cs l).take i)) (2 * lenS rb) (arcsS rb (sg c)))
    have hs := hn z
    refine ⟨some (.p (.lst ((movedS (stepsS st ((cs l).take i)) (2 * lenS rb) (arcsS rb (sg c))).map prP))), ?_⟩
    refine Eq.trans (seq_ok (σ1 := [some (.p (machP rb st)), some (.p (.str l)), r2, some (.p (.int (2 * lenS rb))), some (.p (.lst ((joinedS (sharedS here (reachS rb st l (c, i)))).map prP))), some (.p (.int (i : Int))), some (.p (.str (sg c))), some (.p (.lst ((movedS (stepsS st ((cs l).take i)) (2 * lenS rb) (arcsS rb (sg c))).map prP)))]) (M1 := M) (Eq.trans (if_t (M1 := M) ?_) (Eq.trans (seq_ok (set_ok (d := .nw ((movedS (stepsS st ((cs l).take i)) (2 * lenS rb) (arcsS rb (sg c))).map prP)) (M1 := M) ?_)) ?_))) rfl
    · rw [hc _ rfl, decide_eq_false z]
      rfl
    · refine call_ok (n := 3) (ds := [.p (.lst ((arcsS rb (sg c)).map prP)), .p (.int (stepsS st ((cs l).take i))), .p (.int (2 * lenS rb))]) (M1 := M) ?_ rfl (sp_moved_back rg1 (by omega))
      refine cons_ok (d := .nw ((arcsS rb (sg c)).map prP)) (M1 := M) (by simp [sp_arcs_of h]) (cons_ok (d := .p (.int (stepsS st ((cs l).take i)))) (M1 := M) (sp_steps_cut h hl rfl rfl rfl) (cons_ok (d := .p (.int (2 * lenS rb))) rfl nil_ok))
    · refine Eq.trans (seq_ok (M1 := M) (set_ok (d := .nw ((joinedS (sharedS here (reachS rb st l (c, i)))).map prP)) (M1 := M) ?_)) rfl
      refine call_ok (n := 1) (ds := [.p (.lst ((sharedS here (reachS rb st l (c, i))).map prP))]) (M1 := M) (cons_ok (d := .nw ((sharedS here (reachS rb st l (c, i))).map prP)) (M1 := M) ?_ nil_ok) rfl (sp_joined hs)
      refine call_ok (n := 2) (ds := [.p (.lst (here.map prP)), .p (.lst ((reachS rb st l (c, i)).map prP))]) (M1 := M) (cons_ok (d := .p (.lst (here.map prP))) (M1 := M) rfl (cons_ok (d := .nw ((reachS rb st l (c, i)).map prP)) (M1 := M) ?_ nil_ok)) rfl (sp_shared hs)
      exact call_ok (n := 1) (ds := [.p (.lst ((movedS (stepsS st ((cs l).take i)) (2 * lenS rb) (arcsS rb (sg c))).map prP))]) (M1 := M) (cons_ok (d := .p (.lst ((movedS (stepsS st ((cs l).take i)) (2 * lenS rb) (arcsS rb (sg c))).map prP))) (M1 := M) rfl nil_ok) rfl (sp_joined (by omega))
theorem beg_loop {r2 : Option D} (h : MOk rb st) (hl : (cs l).length ≤ lim) : ∀ (L : List (Nat × Nat)) (here : List (Int × Int)) (x5 x6 x7 : Option D), begLen rb st l L here →
    ∃ y5 y6 y7, forL (.tu [.nm 5, .nm 6]) bB (L.map fun x => P.tup [.int (x.2 : Nat), .str (sg x.1)]) [some (.p (machP rb st)), some (.p (.str l)), r2, some (.p (.int (2 * lenS rb))), some (.p (.lst (here.map prP))), x5, x6, x7] M =
      .ok (.nx [some (.p (machP rb st)), some (.p (.str l)), r2, some (.p (.int (2 * lenS rb))), some (.p (.lst ((L.foldl (begStep rb st l) here).map prP))), y5, y6, y7]) M
  | [], here, x5, x6, x7, _ => ⟨x5, x6, x7, rfl⟩
  | x :: L, here, x5, x6, x7, hb => by
    obtain ⟨z7, e1⟩ := bB_ok (M := M) (r2 := r2) (x7 := x7) (here := here) (i := x.2) (c := x.1) h hl hb.1
    obtain ⟨y5, y6, y7, e2⟩ := beg_loop (r2 := r2) h hl L (begStep rb st l here x) (some (.p (.int (x.2 : Nat)))) (some (.p (.str (sg x.1)))) z7 hb.2
    exact ⟨y5, y6, y7, Eq.trans (forL_nx tu2 e1) e2⟩
def beginsS (rb : List (Str × Int)) (st : List Int) (l w : Str) : List (Int × Int) := (cs w).zipIdx.foldl (begStep rb st l) [(0, 2 * lenS rb - 1)]
theorem sp_begins_for (h : MOk rb st) (hl : LOk st l) (h1 : (cs w).length = (cs l).length) (h2 : ∀ c ∈ cs w, c ∈ [98, 103, 114, 46]) (h3 : begLen rb st l (cs w).zipIdx [(0, 2 * lenS rb - 1)]) :
    F_begins_for [.p (machP rb st), .p (.str l), .p (.str w)] M = .ok (.p (.lst ((beginsS rb st l w).map prP))) M := by
  have l2 := two_lim
  unfold F_begins_for
  rw [fnB3]
  refine lv_p ?_
  unfold b_begins_for
  rw [seq_ok (exp_ok (d := .p .non) (M1 := M) (by simp [sp_need_machine h]))]
  rw [seq_ok (exp_ok (d := .p .non) (M1 := M) (by simp [sp_need_line h hl]))]
  have ew := sp_is_wish (al := ⟨#[98, 103, 114, 46]⟩) (M := M) hl.ll h1 (by simpa using h2)
  refine Eq.trans (seq_ok (M1 := M) (Eq.trans (if_f (M1 := M) ?_) rfl)) ?_
  · have e1 : eCall 3 F_is_wish (aCons (eVar 1) (aCons (eVar 2) (aCons (eBin oAdd (eC (.str "bgr")) (eC (.str "."))) aNil))) (some (.p (machP rb st)) :: some (.p (.str l)) :: some (.p (.str w)) :: List.replicate (8 - 3) none) M = .ok (.p (.bl true)) M :=
      call_ok (n := 3) (ds := [.p (.str l), .p (.str w), .p (.str ⟨#[98, 103, 114, 46]⟩)]) (M1 := M) (cons_ok (d := .p (.str l)) (M1 := M) rfl (cons_ok (d := .p (.str w)) (M1 := M) rfl (cons_ok (d := .p (.str ⟨#[98, 103, 114, 46]⟩)) (M1 := M) (bin_ok (d1 := .p (.str "bgr")) (d2 := .p (.str ".")) (M1 := M) rfl rfl rfl rfl bgrdot) nil_ok))) rfl ew
    rw [x_bNot, x_bTru, e1]
    rfl
  refine Eq.trans (seq_ok (set_ok (d := .p (.int (2 * lenS rb))) (M1 := M) (by simp [sp_length_by h.ll]))) ?_
  refine Eq.trans (seq_ok (set_ok (d := .nw ([(0, 2 * lenS rb - 1)].map prP)) (M1 := M) (by simp [l2, prP, Nat.le_of_succ_le l2]))) ?_
  obtain ⟨y5, y6, y7, e⟩ := beg_loop (rb := rb) (st := st) (l := l) (M := M) (r2 := some (.p (.str w))) h hl.ll (cs w).zipIdx [(0, 2 * lenS rb - 1)] none none none h3
  refine Eq.trans (seq_ok (Eq.trans (for_ok (M1 := M) (enum_s (w := w) (M1 := M) rfl)) e)) (seq_rt (ret_ok rfl))
def aheadS (rb : List (Str × Int)) (at_ : Int) (col : Str) : Option Int :=
  if arcsS rb col = [] then none else some (minL ((arcsS rb col).map fun a => if a.1 ≤ at_ ∧ at_ ≤ a.2 then 0 else (a.1 - at_) % (2 * lenS rb)))
theorem sp_ahead {at_ : Int} {col : Str} (h : MOk rb st) : F_ahead [.p (machP rb st), .p (.int at_), .p (.str col)] M = .ok (.p (optI (aheadS rb at_ col))) M := by
  obtain ⟨rg1, rg2⟩ := h.ring
  have l2 := two_lim
  have al := arcs_len (col := col) h
  have hb := lim_big
  unfold F_ahead
  rw [fnB3]
  refine lv_p ?_
  unfold b_ahead
  rw [seq_ok (unp_ok (M1 := M) (p := .tup [.int (2 * lenS rb), .lst ((arcsS rb col).map prP)]) (by simp [sp_length_by h.ll, sp_arcs_of h, l2]) (by simp; rfl))]
  have e1 : ∀ σ : Fr, σ[1]? = some (some (.p (.int at_))) → σ[4]? = some (some (.p (.int (2 * lenS rb)))) → σ[5]? = some (some (.p (.lst ((arcsS rb col).map prP)))) → 7 < σ.length →
      eLc (.tu [(.nm 6), (.nm 7)]) [6, 7] (iOf (eVar 5)) bYes (eIf (bOf (eChain oLe oLe (eVar 6) (eVar 1) (eVar 7))) (eC (.int 0)) (eBin oMod (eBin oSub (eVar 6) (eVar 1)) (eVar 4))) σ M = .ok (.nw (((arcsS rb col).map fun a => if a.1 ≤ at_ ∧ at_ ≤ a.2 then 0 else (a.1 - at_) % (2 * lenS rb)).map P.int)) M := by
    intro σ q1 q4 q5 q7
    have hq : ((arcsS rb col).map fun a => if a.1 ≤ at_ ∧ at_ ≤ a.2 then 0 else (a.1 - at_) % (2 * lenS rb)).map P.int = ((arcsS rb col).map prP).map (fun p => .int (if (unPr p).1 ≤ at_ ∧ at_ ≤ (unPr p).2 then 0 else ((unPr p).1 - at_) % (2 * lenS rb))) := by
      rw [List.map_map, List.map_map]; rfl
    rw [hq]
    refine eLc_map _ (by simp [q5]) rfl (fun p hp => ?_) (by simp; omega)
    obtain ⟨a, ha, rfl⟩ := List.mem_map.mp hp
    have q6 : 6 < σ.length := by omega
    refine ⟨_, tu2, fun M' => ⟨.p (.int (if a.1 ≤ at_ ∧ at_ ≤ a.2 then 0 else (a.1 - at_) % (2 * lenS rb))), ?_, rfl⟩⟩
    by_cases z1 : a.1 ≤ at_
    · by_cases z2 : at_ ≤ a.2
      · simp [wipeF, q1, q4, q6, q7, z1, z2]
      · simp [wipeF, q1, q4, q6, q7, z1, z2, o_mod_i rg1]
    · simp [wipeF, q1, q4, q6, q7, z1, o_mod_i rg1]
  rw [seq_ok (set_ok (e1 _ (by simp) (by simp) (by simp) (by simp)))]
  refine seq_rt (ret_ok ?_)
  unfold aheadS
  generalize hA : arcsS rb col = A
  rw [x_eIf, x_bOf, bin_ok (d1 := .p (.lst ((A.map fun a => if a.1 ≤ at_ ∧ at_ ≤ a.2 then 0 else (a.1 - at_) % (2 * lenS rb)).map P.int))) (d2 := .nw []) (M1 := M) (M2 := M) (by simp) (by simp) rfl rfl (oNe_ints_nil _)]
  by_cases hz : A = []
  · rw [if_pos hz, hz]
    rfl
  · rw [if_neg hz, decide_eq_false (by simpa using hz)]
    simp only [Out.bind, Bool.not_false, if_true]
    refine callB_ok (ds := [.p (.lst ((A.map fun a => if a.1 ≤ at_ ∧ at_ ≤ a.2 then 0 else (a.1 - at_) % (2 * lenS rb)).map P.int))]) (ps := [.lst ((A.map fun a => if a.1 ≤ at_ ∧ at_ ≤ a.2 then 0 else (a.1 - at_) % (2 * lenS rb)).map P.int)]) (by simp) rfl ?_
    simp only [cMin, intsOf_map]
    rw [if_neg (by simpa using hz)]; rfl
def blindF (rb : List (Str × Int)) (st : List Int) : List (Nat × Nat) → List Int → Int → Option (List Int)
  | [], acc, _ => some acc
  | (s, c) :: r, acc, here => match aheadS rb here (sg c) with
    | none => none
    | some n => blindF rb st r (acc ++ [n]) ((here + n + stepS st s) % (2 * lenS rb))
def bBl : EvS := (sSeq (sSet 8 (eCall 3 F_ahead (aCons (eVar 0) (aCons (eVar 5) (aCons (eVar 7) aNil)))))
    (sSeq (sIf (bOf (eBin oIsN (eVar 8) (eC (.non)))) (sSeq (sRet (eC (.non)))
    sNil) sNil)
    (sSeq (sAug 4 oIadd (eTup (aCons (eVar 8) aNil)))
    (sSeq (sSet 5 (eBin oMod (eBin oAdd (eBin oAdd (eVar 5) (eVar 8)) (eCall 2 F_step_of (aCons (eVar 0) (aCons (eVar 6) aNil)))) (eBin oMul (eC (.int 2)) (eCall 1 F_length_by (aCons (eVar 0) aNil)))))
    sNil))))
theorem blind_loop {r1 r2 r3 : Option D} (h : MOk rb st) : ∀ (L : List (Nat × Nat)) (acc : List Int) (here : Int) (x6 x7 x8 : Option D), acc.length + L.length ≤ lim →
    (∀ R, blindF rb st L acc here = some R → ∃ y5 y6 y7 y8, forL (.tu [.nm 6, .nm 7]) bBl (L.map fun x => P.tup [.str (sg x.1), .str (sg x.2)]) [some (.p (machP rb st)), r1, r2, r3, some (.p (.tup (acc.map P.int))), some (.p (.int here)), x6, x7, x8] M = .ok (.nx [some (.p (machP rb st)), r1, r2, r3, some (.p (.tup (R.map P.int))), y5, y6, y7, y8]) M) ∧
    (blindF rb st L acc here = none → forL (.tu [.nm 6, .nm 7]) bBl (L.map fun x => P.tup [.str (sg x.1), .str (sg x.2)]) [some (.p (machP rb st)), r1, r2, r3, some (.p (.tup (acc.map P.int))), some (.p (.int here)), x6, x7, x8] M = .ok (.rt (.p .non)) M)
  | [], acc, here, x6, x7, x8, _ => ⟨fun R hR => by
      cases hR
      exact ⟨_, _, _, _, rfl⟩, fun hR => by cases hR⟩
  | (s, c) :: L, acc, here, x6, x7, x8, hl => by
    obtain ⟨rg1, rg2⟩ := h.ring
    have l2 := two_lim
    rw [List.length_cons] at hl
    have e0 : ∀ rest : EvS, sSeq (sSet 8 (eCall 3 F_ahead (aCons (eVar 0) (aCons (eVar 5) (aCons (eVar 7) aNil))))) rest [some (.p (machP rb st)), r1, r2, r3, some (.p (.tup (acc.map P.int))), some (.p (.int here)), some (.p (.str (sg s))), some (.p (.str (sg c))), x8] M = rest [some (.p (machP rb st)), r1, r2, r3, some (.p (.tup (acc.map P.int))), some (.p (.int here)), some (.p (.str (sg s))), some (.p (.str (sg c))), some (.p (optI (aheadS rb here (sg c))))] M := fun rest =>
      seq_ok (set_ok (d := .p (optI (aheadS rb here (sg c)))) (M1 := M) (call_ok (n := 3) (ds := [.p (machP rb st), .p (.int here), .p (.str (sg c))]) (M1 := M) rfl rfl (sp_ahead h)))
    cases ha : aheadS rb here (sg c) with
    | none =>
      rw [ha] at e0
      refine ⟨fun R hR => by simp [blindF, ha] at hR, fun _ => ?_⟩
      rw [List.map_cons]
      refine forL_rt tu2 ?_
      unfold bBl
      refine Eq.trans (e0 _) (seq_rt (Eq.trans (if_t (M1 := M) rfl) (seq_rt (ret_ok rfl))))
    | some n =>
      rw [ha] at e0
      have e1 : bBl [some (.p (machP rb st)), r1, r2, r3, some (.p (.tup (acc.map P.int))), some (.p (.int here)), some (.p (.str (sg s))), some (.p (.str (sg c))), x8] M = .ok (.nx [some (.p (machP rb st)), r1, r2, r3, some (.p (.tup ((acc ++ [n]).map P.int))), some (.p (.int ((here + n + stepS st s) % (2 * lenS rb)))), some (.p (.str (sg s))), some (.p (.str (sg c))), some (.p (.int n))]) M := by
        unfold bBl
        refine Eq.trans (e0 _) ?_
        refine Eq.trans (seq_ok (Eq.trans (if_f (M1 := M) rfl) rfl)) ?_
        refine Eq.trans (seq_ok (aug_ok (d := .p .non) (x := .tup (acc.map P.int)) (y := .tup [.int n]) (M1 := M) (r := .p (.tup ((acc ++ [n]).map P.int))) rfl (by simp [optI, Nat.le_of_succ_le l2]) ?_)) ?_
        · show oAdd (.tup (acc.map P.int)) (.tup [.int n]) = _
          show (if (acc.map P.int).length + [P.int n].length ≤ lim then some (D.p (.tup (acc.map P.int ++ [P.int n]))) else none) = _
          rw [if_pos (by simp only [List.length_map, List.length_singleton]; omega), List.map_append]
          rfl
        · refine Eq.trans (seq_ok (set_ok (d := .p (.int ((here + n + stepS st s) % (2 * lenS rb)))) (M1 := M) ?_)) rfl
          refine bin_ok (d1 := .p (.int (here + n + stepS st s))) (d2 := .p (.int (2 * lenS rb))) (M1 := M) ?_ (by simp [sp_length_by h.ll]) rfl rfl (o_mod_i rg1)
          refine bin_ok (d1 := .p (.int (here + n))) (d2 := .p (.int (stepS st s))) (M1 := M) rfl ?_ rfl rfl rfl
          exact call_ok (n := 2) (ds := [.p (machP rb st), .p (.str (sg s))]) (M1 := M) rfl rfl (sp_step_of h)
      obtain ⟨i1, i2⟩ := blind_loop (r1 := r1) (r2 := r2) (r3 := r3) h L (acc ++ [n]) ((here + n + stepS st s) % (2 * lenS rb)) (some (.p (.str (sg s)))) (some (.p (.str (sg c)))) (some (.p (.int n))) (by rw [List.length_append, List.length_singleton]; omega)
      have ef : blindF rb st ((s, c) :: L) acc here = blindF rb st L (acc ++ [n]) ((here + n + stepS st s) % (2 * lenS rb)) := by
        show (match aheadS rb here (sg c) with
          | none => none
          | some n => blindF rb st L (acc ++ [n]) ((here + n + stepS st s) % (2 * lenS rb))) = _
        rw [ha]
      rw [ef]
      refine ⟨fun R hR => ?_, fun hR => ?_⟩
      · obtain ⟨y5, y6, y7, y8, e2⟩ := i1 R hR
        exact ⟨y5, y6, y7, y8, Eq.trans (forL_nx tu2 e1) e2⟩
      · exact Eq.trans (forL_nx tu2 e1) (i2 hR)
def blindS (rb : List (Str × Int)) (st : List Int) (b : Int) (l w : Str) : Option (List Int) := blindF rb st ((cs l).zip (cs w)) [] b
def optTup : Option (List Int) → P
  | none => .non
  | some R => .tup (R.map P.int)
theorem zip_s {fs : EvA} {σ : Fr} {M1 : Sto} (h : fs σ M = .ok [.p (.str l), .p (.str w)] M1) : iZip fs σ M = .ok (((cs l).zip (cs w)).map fun x => P.tup [.str (sg x.1), .str (sg x.2)]) M1 := by
  unfold iZip
  rw [h]
  show Out.ok (List.zipWith (fun x y => P.tup [x, y]) (chars l) (chars w)) M1 = _
  congr 1
  unfold chars
  rw [List.zipWith_map, List.zip_eq_zipWith, List.map_zipWith]
theorem sp_blind_steps {b : Int} (h : MOk rb st) (hb : 0 ≤ b) (hb2 : b ≤ 2 * lenS rb - 1) (hl : LOk st l) (hw : WOk l w) :
    F_blind_steps [.p (machP rb st), .p (.int b), .p (.str l), .p (.str w)] M = .ok (.p (optTup (blindS rb st b l w))) M := by
  have l2 := two_lim
  have h40 := hl.le
  have hlim := lim_big
  unfold F_blind_steps
  rw [fnB4]
  refine lv_p ?_
  unfold b_blind_steps
  rw [seq_ok (exp_ok (d := .p .non) (M1 := M) (by simp [sp_need_all h hb hb2 hl]))]
  rw [seq_ok (exp_ok (d := .p .non) (M1 := M) (by simp [sp_need_wish hl.ll hw]))]
  refine Eq.trans (seq_ok (M1 := M) (σ1 := [some (.p (machP rb st)), some (.p (.int b)), some (.p (.str l)), some (.p (.str w)), some (.p (.tup [])), some (.p (.int b)), none, none, none]) (by simp)) ?_
  have hzl : ((cs l).zip (cs w)).length ≤ lim := by rw [List.length_zip]; omega
  obtain ⟨i1, i2⟩ := blind_loop (rb := rb) (st := st) (M := M) (r1 := some (.p (.int b))) (r2 := some (.p (.str l))) (r3 := some (.p (.str w))) h ((cs l).zip (cs w)) [] b none none none (by simpa using hzl)
  unfold blindS
  cases hB : blindF rb st ((cs l).zip (cs w)) [] b with
  | none => exact seq_rt (Eq.trans (for_ok (M1 := M) (zip_s (M1 := M) rfl)) (i2 hB))
  | some R =>
    obtain ⟨y5, y6, y7, y8, e⟩ := i1 R hB
    exact Eq.trans (seq_ok (Eq.trans (for_ok (M1 := M) (zip_s (M1 := M) rfl)) e)) (seq_rt (ret_ok rfl))
end
end Ev

set_option linter.all false
set_option maxRecDepth 100000
set_option maxHeartbeats 4000000
/-! Spec15: the great ribbon of law k14. -/
namespace Ev
open PySem
theorem fr_hit {k : Nat} {a R low high f q : Int} (h0 : low ≠ 0) (hf : a % R = f) (f0 : 0 < f) (hq : (low + f - 1) / f = q) (hh : q * f ≤ high) : frR (k + 1) a R low high = some (some q) := by
  rw [frR, hf, if_neg h0, if_neg (by omega), hq, if_pos hh]
theorem fr_go {k : Nat} {a R low high f q l2 h2 m r : Int} (h0 : low ≠ 0) (hf : a % R = f) (f0 : 0 < f) (hq : (low + f - 1) / f = q) (hh : ¬ q * f ≤ high) (hl : -high % f = l2) (hh2 : -low % f = h2)
    (hr : frR k R f l2 h2 = some (some m)) (e : (low + R * m + f - 1) / f = r) : frR (k + 1) a R low high = some (some r) := by
  rw [frR, hf, if_neg h0, if_neg (by omega), hq, if_neg hh, hl, hh2, hr]
  dsimp only
  rw [e]
theorem frT_of {k : Nat} {a b c d : Int} {r : Option Int} (h : frR k a b c d = some r) (hk : k ≤ 219) : frT a b c d = r := by
  unfold frT
  rw [fr_le h hk]
  rfl
def gb (m : Int) : List (Str × Int) := [(sg 98, m - 1), (sg 114, 1)]
def gst : List Int := [1, 7]
theorem gb_len {m : Int} : lenS (gb m) = m := by simp [lenS, gb]
theorem gb_ok {m : Int} (h1 : 2 ≤ m) (h2 : m ≤ GRT) : MOk (gb m) gst := by
  refine ⟨by simp [gb], by simp [gb], ?_, by simp [gst], by simp [gst]⟩
  intro x hx
  simp only [gb, List.mem_cons, List.not_mem_nil, or_false] at hx
  have g1 : (1 : Int) ≤ GRT := by decide
  rcases hx with e | e <;> rw [e]
  · exact ⟨rfl, by show 1 ≤ m - 1; omega, by show m - 1 ≤ GRT; omega⟩
  · exact ⟨rfl, by decide, g1⟩
theorem n98 : sg 98 ≠ sg 114 := fun h => by have := sg_inj.mp h; omega
theorem n103b : sg 98 ≠ sg 103 := fun h => by have := sg_inj.mp h; omega
theorem n103r : sg 114 ≠ sg 103 := fun h => by have := sg_inj.mp h; omega
theorem arcs_r {m : Int} : arcsS (gb m) (sg 114) = [(m - 1, m - 1), (m, m)] := by
  have e : rowsS (sg 114) (gb m) 0 = [(m - 1, 1)] := by
    unfold gb
    rw [rowsS, if_neg n98, rowsS, if_pos rfl, rowsS, Int.zero_add]
  unfold arcsS
  rw [e, gb_len]
  simp only [List.map_cons, List.map_nil, List.singleton_append]
  rw [show m - 1 + 1 - 1 = m - 1 by omega, show 2 * m - (m - 1) - 1 = m by omega, show 2 * m - 1 - (m - 1) = m by omega]
theorem arcs_b {m : Int} : arcsS (gb m) (sg 98) = [(0, m - 2), (m + 1, 2 * m - 1)] := by
  have e : rowsS (sg 98) (gb m) 0 = [(0, m - 1)] := by
    unfold gb
    rw [rowsS, if_pos rfl, rowsS, if_neg n98.symm, rowsS]
  unfold arcsS
  rw [e, gb_len]
  simp only [List.map_cons, List.map_nil, List.singleton_append]
  rw [show (0 : Int) + (m - 1) - 1 = m - 2 by omega, show 2 * m - 0 - (m - 1) = m + 1 by omega, show 2 * m - 1 - 0 = 2 * m - 1 by omega]
theorem arcs_g {m : Int} : arcsS (gb m) (sg 103) = [] := by
  have e : rowsS (sg 103) (gb m) 0 = [] := by
    unfold gb
    rw [rowsS, if_neg n103b, rowsS, if_neg n103r, rowsS]
  unfold arcsS
  rw [e]
  rfl
theorem step_x : stepsS gst (cs (sg 120)) = 1 := by rfl
theorem step_y : stepsS gst (cs (sg 121)) = 7 := by rfl
theorem stand0 {m b : Int} {l : Str} (h1 : 0 ≤ b) (h2 : b < 2 * m) : standS (gb m) gst b l 0 0 = b := by
  unfold standS
  rw [gb_len, List.take_zero]
  show (b + (0 * _ + 0)) % _ = b
  rw [Int.zero_mul, Int.add_zero, Int.add_zero, Int.emod_eq_of_lt h1 h2]
theorem emod_neg {x R y : Int} (h : y = x + R) (h1 : 0 ≤ y) (h2 : y < R) : x % R = y := by
  rw [show x = y + R * (-1) by omega, Int.add_mul_emod_self_left, Int.emod_eq_of_lt h1 h2]
theorem by2 {m b s : Int} {l col : Str} {A1 A2 : Int × Int} {x y : Int} (hA : arcsS (gb m) col = [A1, A2]) (hs : stepsS gst (cs l) = s) (h1 : 0 ≤ b) (h2 : b < 2 * m) (e1 : hitS b s (2 * m) A1 = some x) (e2 : hitS b s (2 * m) A2 = some y) (hxy : x ≤ y) :
    byS (gb m) gst b l 0 col = some x := by
  unfold byS
  rw [hA, hs, gb_len, stand0 h1 h2]
  simp only [List.filterMap_cons, List.filterMap_nil, e1, e2]
  rw [if_neg (by simp)]
  simp only [minL]
  rw [Int.min_eq_left hxy]
section
variable {m q : Int} (hm : m = 7 * q + 1) (hq : 3 ≤ q)
include hm hq
theorem k7 : (7 : Int) % (2 * m) = 7 := Int.emod_eq_of_lt (by decide) (by omega)
theorem hit1 : hitS 0 7 (2 * m) (m - 1, m - 1) = some q := by
  unfold hitS
  dsimp only
  rw [if_neg (by omega)]
  have e : (m - 1 - 0) % (2 * m) = m - 1 := by rw [Int.sub_zero]; exact Int.emod_eq_of_lt (by omega) (by omega)
  rw [e]
  exact frT_of (k := 1) (fr_hit (f := 7) (by omega) (k7 hm hq) (by decide) (by omega) (by omega)) (by decide)
theorem hit2 : hitS 0 7 (2 * m) (m, m) = some (7 * q + 1) := by
  unfold hitS
  dsimp only
  rw [if_neg (by omega)]
  have e : (m - 0) % (2 * m) = m := by rw [Int.sub_zero]; exact Int.emod_eq_of_lt (by omega) (by omega)
  rw [e]
  exact frT_of (k := 2) (fr_go (f := 7) (q := q + 1) (l2 := 6) (h2 := 6) (m := 3) (by omega) (k7 hm hq) (by decide) (by omega) (by omega) (by omega) (by omega)
    (fr_hit (f := 2) (by decide) (by omega) (by decide) (q := 3) (by decide) (by decide)) (by omega)) (by decide)
theorem by_0y : byS (gb m) gst 0 (sg 121) 0 (sg 114) = some q := by2 arcs_r step_y (by decide) (by omega) (hit1 hm hq) (hit2 hm hq) (by omega)
theorem hit3 : hitS 2 7 (2 * m) (m - 1, m - 1) = some (3 * q) := by
  unfold hitS
  dsimp only
  rw [if_neg (by omega)]
  have e : (m - 1 - 2) % (2 * m) = m - 3 := Eq.trans (by congr 1; omega) (Int.emod_eq_of_lt (a := m - 3) (by omega) (by omega))
  rw [e]
  exact frT_of (k := 2) (fr_go (f := 7) (q := q) (l2 := 2) (h2 := 2) (m := 1) (by omega) (k7 hm hq) (by decide) (by omega) (by omega) (by omega) (by omega)
    (fr_hit (f := 2) (by decide) (by omega) (by decide) (q := 1) (by decide) (by decide)) (by omega)) (by decide)
theorem hit4 : hitS 2 7 (2 * m) (m, m) = some (9 * q + 1) := by
  unfold hitS
  dsimp only
  rw [if_neg (by omega)]
  have e : (m - 2) % (2 * m) = m - 2 := Int.emod_eq_of_lt (by omega) (by omega)
  rw [e]
  exact frT_of (k := 3) (fr_go (f := 7) (q := q) (l2 := 1) (h2 := 1) (m := 4) (by omega) (k7 hm hq) (by decide) (by omega) (by omega) (by omega) (by omega)
    (fr_go (f := 2) (q := 1) (l2 := 1) (h2 := 1) (m := 1) (by decide) (by omega) (by decide) (by decide) (by decide) (by decide) (by decide)
      (fr_hit (f := 1) (by decide) (by decide) (by decide) (q := 1) (by decide) (by decide)) (by decide)) (by omega)) (by decide)
theorem by_2y : byS (gb m) gst 2 (sg 121) 0 (sg 114) = some (3 * q) := by2 arcs_r step_y (by decide) (by omega) (hit3 hm hq) (hit4 hm hq) (by omega)
theorem k1 : (1 : Int) % (2 * m) = 1 := Int.emod_eq_of_lt (by decide) (by omega)
theorem hit_x {b : Int} {A : Int} (hb : 0 ≤ b) (hn : A ≠ b) {x : Int} (x0 : 0 < x) (hx : (A - b) % (2 * m) = x) : hitS b 1 (2 * m) (A, A) = some x := by
  unfold hitS
  dsimp only
  rw [if_neg (by omega), hx]
  exact frT_of (k := 1) (fr_hit (f := 1) (by omega) (k1 hm hq) (by decide) (by omega) (by omega)) (by decide)
theorem by_0x : byS (gb m) gst 0 (sg 120) 0 (sg 114) = some (m - 1) :=
  by2 (x := m - 1) (y := m) arcs_r step_x (by decide) (by omega) (hit_x hm hq (by decide) (by omega) (by omega) (by rw [Int.sub_zero]; exact Int.emod_eq_of_lt (by omega) (by omega))) (hit_x hm hq (by decide) (by omega) (by omega) (by rw [Int.sub_zero]; exact Int.emod_eq_of_lt (by omega) (by omega))) (by omega)
theorem by_mx : byS (gb m) gst (m + 1) (sg 120) 0 (sg 114) = some (2 * m - 2) :=
  by2 (x := 2 * m - 2) (y := 2 * m - 1) arcs_r step_x (by omega) (by omega) (hit_x hm hq (by omega) (by omega) (by omega) (emod_neg (by omega) (by omega) (by omega))) (hit_x hm hq (by omega) (by omega) (by omega) (emod_neg (by omega) (by omega) (by omega))) (by omega)
theorem by_g {b : Int} {l : Str} {i : Nat} : byS (gb m) gst b l i (sg 103) = none := by
  unfold byS
  rw [arcs_g]
  rfl
theorem ever_3 : everS (gb m) gst 3 (sg 121) 0 = [98, 114] := by
  have e1 : (byS (gb m) gst 3 (sg 121) 0 (sg 98)).isSome = true := by
    unfold byS
    rw [arcs_b, step_y, gb_len, stand0 (by decide) (by omega)]
    have : hitS 3 7 (2 * m) (0, m - 2) = some 0 := if_pos ⟨by show (0 : Int) ≤ 3; decide, by show (3 : Int) ≤ m - 2; omega⟩
    simp only [List.filterMap_cons, this]
    rw [if_neg (by simp)]
    rfl
  have e2 : (byS (gb m) gst 3 (sg 121) 0 (sg 114)).isSome = true := by
    unfold byS
    rw [arcs_r, step_y, gb_len, stand0 (by decide) (by omega)]
    have : hitS 3 7 (2 * m) (m - 1, m - 1) = some (11 * q + 1) := by
      unfold hitS
      dsimp only
      rw [if_neg (by omega)]
      have e : (m - 1 - 3) % (2 * m) = m - 4 := Eq.trans (by congr 1; omega) (Int.emod_eq_of_lt (a := m - 4) (by omega) (by omega))
      rw [e]
      exact frT_of (k := 3) (fr_go (f := 7) (q := q) (l2 := 3) (h2 := 3) (m := 5) (by omega) (k7 hm hq) (by decide) (by omega) (by omega) (by omega) (by omega)
        (fr_go (f := 2) (q := 2) (l2 := 1) (h2 := 1) (m := 1) (by decide) (by omega) (by decide) (by decide) (by decide) (by decide) (by decide)
          (fr_hit (f := 1) (by decide) (by decide) (by decide) (q := 1) (by decide) (by decide)) (by decide)) (by omega)) (by decide)
    simp only [List.filterMap_cons, this]
    rw [if_neg (by simp)]
    rfl
  have e3 := by_g hm hq (b := 3) (l := sg 121) (i := 0)
  unfold everS
  rw [List.filter_cons, if_pos e1, List.filter_cons, e3, if_neg (by decide), List.filter_cons, if_pos e2]
  rfl
theorem off_0 : offS (gb m) gst 0 (sg 120) (sg 98) = some (m - 1, 0) := by
  have e1 : ∀ b, offStep (gb m) gst 0 (sg 120) (sg 98) b 0 98 = b := fun b => rfl
  have e2 : ∀ b, offStep (gb m) gst 0 (sg 120) (sg 98) b 0 103 = b := fun b => by
    unfold offStep
    rw [by_g hm hq, if_pos (by decide)]
    rfl
  have e3 : offStep (gb m) gst 0 (sg 120) (sg 98) none 0 114 = some (m - 1, 0) := by
    unfold offStep
    rw [by_0x hm hq, if_pos (by decide)]
    rfl
  show offStep (gb m) gst 0 (sg 120) (sg 98) (offStep (gb m) gst 0 (sg 120) (sg 98) (offStep (gb m) gst 0 (sg 120) (sg 98) none 0 98) 0 103) 0 114 = _
  rw [e1, e2, e3]
theorem per_x : periodS (gb m) gst (sg 120) = 2 * m := by
  unfold periodS
  rw [step_x, gb_len, k1 hm hq]
  show 2 * m / ((Nat.gcd (2 * m).toNat 1 : Nat) : Int) = _
  rw [Nat.gcd_one_right]
  exact Int.ediv_one _
theorem wear_5 : wearS (gb m) gst 0 (sg 120) m 5 = 1 := by
  unfold wearS
  show (([0] : List Nat).map _).sum = _
  rw [List.map_cons, step_x, gb_len, stand0 (by decide) (by omega)]
  have co : ∀ z : Int, 2 * m / ((1 : Nat) : Int) ∣ z * (1 / ((1 : Nat) : Int)) → 2 * m / ((1 : Nat) : Int) ∣ z := fun z hz => by simpa using hz
  have e1 := hitN_yes (b := 0) (s := 1) (R := 2 * m) (p := 5) (n := m) (t := 5) (g := 1) (by omega) (by decide) (by simp) (by simp) co (by decide) (by simp; omega) (by simp)
  have e2 := hitN_yes (b := 0) (s := 1) (R := 2 * m) (p := 2 * m - 1 - 5) (n := m) (t := 2 * m - 1 - 5) (g := 1) (by omega) (by decide) (by simp) (by simp) co (by omega) (by simp; omega) (by
    rw [show 0 + (2 * m - 1 - 5) * 1 - (2 * m - 1 - 5) = 0 by omega]; exact Int.dvd_zero _)
  rw [e1, e2, if_pos (by omega), if_neg (by omega)]
  have e3 : (m - 1 - 5) / (2 * m / ((1 : Nat) : Int)) = 0 := by
    rw [show ((1 : Nat) : Int) = 1 from rfl, Int.ediv_one]
    exact Int.ediv_eq_zero_of_lt (by omega) (by omega)
  rw [e3]
  rfl
theorem beg_1 : reachS (gb m) gst (sg 120) (114, 0) = [(m - 1, m)] := by
  unfold reachS
  dsimp only
  rw [arcs_r, List.take_zero, gb_len]
  have e1 : movedS 0 (2 * m) [(m - 1, m - 1), (m, m)] = [(m - 1, m - 1), (m, m)] := by
    have a1 : (m - 1 - 0) % (2 * m) = m - 1 := by rw [Int.sub_zero]; exact Int.emod_eq_of_lt (by omega) (by omega)
    have a2 : (m - 0) % (2 * m) = m := by rw [Int.sub_zero]; exact Int.emod_eq_of_lt (by omega) (by omega)
    have r1 : movedR 0 (2 * m) (m - 1, m - 1) = [(m - 1, m - 1)] := by
      unfold movedR
      dsimp only
      rw [a1, if_pos (by omega)]
      congr 2; omega
    have r2 : movedR 0 (2 * m) (m, m) = [(m, m)] := by
      unfold movedR
      dsimp only
      rw [a2, if_pos (by omega)]
      congr 2; omega
    show movedR _ _ _ ++ (movedR _ _ _ ++ []) = _
    rw [r1, r2]; rfl
  rw [show stepsS gst [] = 0 from rfl, e1]
  unfold joinedS
  have e2 : sortP [(m - 1, m - 1), (m, m)] = [(m - 1, m - 1), (m, m)] := by
    simp only [sortP, insP]
    rw [if_neg]
    simp [SrtO.lexB]
    omega
  rw [e2]
  show joinStep [(m - 1, m - 1)] (m, m) = _
  show (if m - 1 + 1 ≥ m then [(m - 1, maxI (m - 1) m)] else _) = _
  rw [if_pos (by omega), maxI, if_pos (by omega)]
theorem beg_2 : sharedS [(0, 2 * m - 1)] [(m - 1, m)] = [(m - 1, m)] := by
  have : shareR (0, 2 * m - 1) (m - 1, m) = some (m - 1, m) := by
    unfold shareR
    dsimp only
    have a1 : maxI 0 (m - 1) = m - 1 := if_pos (by omega)
    have a2 : minI (2 * m - 1) m = m := if_pos (by omega)
    rw [a1, a2, if_pos (by omega)]
  unfold sharedS
  simp [this]
theorem beg_x : beginsS (gb m) gst (sg 120) (sg 114) = [(m - 1, m)] := by
  show begStep (gb m) gst (sg 120) [(0, 2 * lenS (gb m) - 1)] (114, 0) = _
  unfold begStep
  rw [if_neg (by decide), beg_1 hm hq, gb_len, beg_2 hm hq]
  rfl
theorem ah {b : Int} {x y : Int} (n1 : ¬ (m - 1 ≤ b ∧ b ≤ m - 1)) (n2 : ¬ (m ≤ b ∧ b ≤ m)) (e1 : (m - 1 - b) % (2 * m) = x) (e2 : (m - b) % (2 * m) = y) (hxy : x ≤ y) : aheadS (gb m) b (sg 114) = some x := by
  unfold aheadS
  rw [arcs_r, if_neg (by simp), gb_len]
  simp only [List.map_cons, List.map_nil]
  rw [if_neg n1, if_neg n2, e1, e2]
  simp only [minL]
  rw [Int.min_eq_left hxy]
theorem blind_x : blindS (gb m) gst 0 ⟨#[121, 120]⟩ ⟨#[114, 114]⟩ = some [m - 1, 2 * m - 7] := by
  have a1 : aheadS (gb m) 0 (sg 114) = some (m - 1) := ah hm hq (y := m) (by omega) (by omega) (by rw [Int.sub_zero]; exact Int.emod_eq_of_lt (by omega) (by omega)) (by rw [Int.sub_zero]; exact Int.emod_eq_of_lt (by omega) (by omega)) (by omega)
  have a2 : aheadS (gb m) (m + 6) (sg 114) = some (2 * m - 7) := ah hm hq (y := 2 * m - 6) (by omega) (by omega) (emod_neg (by omega) (by omega) (by omega)) (emod_neg (by omega) (by omega) (by omega)) (by omega)
  show blindF (gb m) gst [(121, 114), (120, 114)] [] 0 = _
  rw [blindF, a1]
  dsimp only
  have e : (0 + (m - 1) + stepS gst 121) % (2 * lenS (gb m)) = m + 6 := by
    rw [gb_len, show stepS gst 121 = 7 from rfl, show 0 + (m - 1) + 7 = m + 6 by omega]
    exact Int.emod_eq_of_lt (by omega) (by omega)
  rw [e, blindF, a2]
  rfl
end
end Ev

set_option linter.all false
set_option maxRecDepth 100000
set_option maxHeartbeats 4000000
/-! Spec16: the spool; what is drawn. -/
namespace Ev
open PySem
theorem o_mod_r {i j : Int} (h : 0 < j) : oMod (.int i) (.int j) = some (.p (.int (i % j))) := o_mod_i h
theorem c_len_c' {a : List Int} : cLen [.scr a] = some (.p (.int a.length)) := rfl
theorem big_pow : oPow (.int 10) (.int 18) = some (.p (.int (10 ^ 18))) := by kernel_rfl
theorem mul_r {i j : Int} (h1 : 0 ≤ j) (h2 : j < 2 ^ 64) : oMul (.int i) (.int j) = some (.p (.int (i * j))) := oMul_ok (mulOk_r h1 h2)
theorem mul_l {i j : Int} (h1 : 0 ≤ i) (h2 : i < 2 ^ 64) : oMul (.int i) (.int j) = some (.p (.int (i * j))) := oMul_ok (mulOk_l h1 h2)
theorem atI_nat {α : Type} {l : List α} {k : Nat} (h : k < l.length) : L2.atI l (k : Int) = some l[k] := by
  unfold L2.atI L2.ixN
  rw [if_pos (by omega), if_pos (by omega)]
  simp [h]
theorem sp_spool {ns : List Int} {k : Nat} {M : Sto} : ∃ a b, 0 ≤ a ∧ F__law_spool [.p (.scr ns), .p (.int (k : Int))] M = .ok (.nw [.int a, .int b]) M := by
  have l2 := two_lim
  have tail : ∀ cell : Int, 0 ≤ cell → ∃ a b, 0 ≤ a ∧ sSeq (sRet (eLst (aCons (eIf (bOf (eBin oGe (eVar 2) (eBin oPow (eC (.int 10)) (eC (.int 18))))) (eVar 2) (eC (.int 0))) (aCons (eBin oAdd (eBin oMod (eCB cInt (aCons (eBin oAdd (eBin oAdd (eBin oMul (eVar 2) (eC (.int 71))) (eBin oMul (eC (.int 4603)) (eVar 1))) (eC (.int 57))) aNil)) (eC (.int 2147483423))) (eC (.int 1))) aNil)))) sNil [some (.p (.scr ns)), some (.p (.int (k : Int))), some (.p (.int cell))] M = .ok (.rt (.nw [.int a, .int b])) M := by
    intro cell hc
    have e2 : eBin oAdd (eBin oMod (eCB cInt (aCons (eBin oAdd (eBin oAdd (eBin oMul (eVar 2) (eC (.int 71))) (eBin oMul (eC (.int 4603)) (eVar 1))) (eC (.int 57))) aNil)) (eC (.int 2147483423))) (eC (.int 1)) [some (.p (.scr ns)), some (.p (.int (k : Int))), some (.p (.int cell))] M = .ok (.p (.int ((cell * 71 + 4603 * k + 57) % 2147483423 + 1))) M := by
      refine bin_ok (d1 := .p (.int ((cell * 71 + 4603 * k + 57) % 2147483423))) (d2 := .p (.int 1)) (M1 := M) ?_ rfl rfl rfl rfl
      refine bin_ok (d1 := .p (.int (cell * 71 + 4603 * k + 57))) (d2 := .p (.int 2147483423)) (M1 := M) ?_ rfl rfl rfl (o_mod_i (by decide))
      refine callB_ok (ds := [.p (.int (cell * 71 + 4603 * k + 57))]) (ps := [.int (cell * 71 + 4603 * k + 57)]) (cons_ok (d := .p (.int (cell * 71 + 4603 * k + 57))) (M1 := M) ?_ nil_ok) rfl rfl
      refine bin_ok (d1 := .p (.int (cell * 71 + 4603 * k))) (d2 := .p (.int 57)) (M1 := M) ?_ rfl rfl rfl rfl
      refine bin_ok (d1 := .p (.int (cell * 71))) (d2 := .p (.int (4603 * k))) (M1 := M) ?_ ?_ rfl rfl rfl
      · exact bin_ok (d1 := .p (.int cell)) (d2 := .p (.int 71)) (M1 := M) rfl rfl rfl rfl (mul_r (by decide) (by decide))
      · exact bin_ok (d1 := .p (.int 4603)) (d2 := .p (.int (k : Int))) (M1 := M) rfl rfl rfl rfl (mul_l (by decide) (by decide))
    have ep : eBin oGe (eVar 2) (eBin oPow (eC (.int 10)) (eC (.int 18))) [some (.p (.scr ns)), some (.p (.int (k : Int))), some (.p (.int cell))] M = .ok (.p (.bl (decide (10 ^ 18 ≤ cell)))) M := by
      refine bin_ok (d1 := .p (.int cell)) (d2 := .p (.int (10 ^ 18))) (M1 := M) rfl ?_ rfl rfl rfl
      exact bin_ok (d1 := .p (.int 10)) (d2 := .p (.int 18)) (M1 := M) rfl rfl rfl rfl big_pow
    by_cases hb : (10 : Int) ^ 18 ≤ cell
    · rw [decide_eq_true hb] at ep
      refine ⟨cell, _, hc, seq_rt (ret_ok (lst_ok (ds := [.p (.int cell), .p (.int ((cell * 71 + 4603 * k + 57) % 2147483423 + 1))]) (cons_ok (d := .p (.int cell)) (M1 := M) (Eq.trans (ife_t (bof_ok ep)) rfl) (cons_ok (d := .p (.int ((cell * 71 + 4603 * k + 57) % 2147483423 + 1))) (M1 := M) e2 nil_ok)) rfl ?_))⟩
      exact l2
    · rw [decide_eq_false hb] at ep
      refine ⟨0, _, Int.le_refl _, seq_rt (ret_ok (lst_ok (ds := [.p (.int 0), .p (.int ((cell * 71 + 4603 * k + 57) % 2147483423 + 1))]) (cons_ok (d := .p (.int 0)) (M1 := M) (Eq.trans (ife_f (bof_ok ep)) rfl) (cons_ok (d := .p (.int ((cell * 71 + 4603 * k + 57) % 2147483423 + 1))) (M1 := M) e2 nil_ok)) rfl ?_))⟩
      exact l2
  have ec : eBin oLt (eVar 1) (eCB cLen (aCons (eVar 0) aNil)) [some (.p (.scr ns)), some (.p (.int (k : Int))), none] M = .ok (.p (.bl (decide ((k : Int) < ns.length)))) M :=
    bin_ok (d1 := .p (.int (k : Int))) (d2 := .p (.int ns.length)) (M1 := M) rfl (callB_ok (ds := [.p (.scr ns)]) (ps := [.scr ns]) (cons_ok (d := .p (.scr ns)) (M1 := M) rfl nil_ok) rfl rfl) rfl rfl rfl
  have fin : ∀ cell : Int, 0 ≤ cell → (eIf (bOf (eBin oLt (eVar 1) (eCB cLen (aCons (eVar 0) aNil)))) (eCB cAbs (aCons (eCB cInt (aCons (eBin oIx (eVar 0) (eVar 1)) aNil)) aNil)) (eBin oAdd (eBin oMul (eC (.int 601)) (eVar 1)) (eC (.int 113)))) [some (.p (.scr ns)), some (.p (.int (k : Int))), none] M = .ok (.p (.int cell)) M → ∃ a b, 0 ≤ a ∧ F__law_spool [.p (.scr ns), .p (.int (k : Int))] M = .ok (.nw [.int a, .int b]) M := by
    intro cell hc e
    obtain ⟨a, b, h0, e2⟩ := tail cell hc
    refine ⟨a, b, h0, ?_⟩
    unfold F__law_spool
    rw [fnB2]
    refine lv_n ?_
    unfold b__law_spool
    exact Eq.trans (seq_ok (set_ok (d := .p (.int cell)) (M1 := M) e)) e2
  by_cases hk : k < ns.length
  · have hk' : (k : Int) < ns.length := by omega
    rw [decide_eq_true hk'] at ec
    refine fin (if ns[k] < 0 then -ns[k] else ns[k]) (by split <;> omega) ?_
    rw [ife_t (bof_ok ec)]
    refine callB_ok (ds := [.p (.int ns[k])]) (ps := [.int ns[k]]) (cons_ok (d := .p (.int ns[k])) (M1 := M) ?_ nil_ok) rfl rfl
    refine callB_ok (ds := [.p (.int ns[k])]) (ps := [.int ns[k]]) (cons_ok (d := .p (.int ns[k])) (M1 := M) ?_ nil_ok) rfl rfl
    refine bin_ok (d1 := .p (.scr ns)) (d2 := .p (.int (k : Int))) (M1 := M) rfl rfl rfl rfl ?_
    show (L2.atI ns (k : Int)).map _ = _
    rw [atI_nat hk]; rfl
  · have hk' : ¬ (k : Int) < ns.length := by omega
    rw [decide_eq_false hk'] at ec
    refine fin (601 * k + 113) (by omega) ?_
    rw [ife_f (bof_ok ec)]
    refine bin_ok (d1 := .p (.int (601 * k))) (d2 := .p (.int 113)) (M1 := M) ?_ rfl rfl rfl rfl
    exact bin_ok (d1 := .p (.int 601)) (d2 := .p (.int (k : Int))) (M1 := M) rfl rfl rfl rfl (mul_l (by decide) (by decide))
/-! ### the spool in the store -/
def SpAt (M : Sto) (n : Nat) : Prop := ∃ a b : Int, 0 ≤ a ∧ M[n]? = some (.lst [.int a, .int b])
def Spw (n : Nat) (M M' : Sto) : Prop := M' = M ∨ ∃ a b : Int, 0 ≤ a ∧ M' = M.set n (.lst [.int a, .int b])
theorem Spw.at {n : Nat} {M M' : Sto} (h : SpAt M n) (w : Spw n M M') : SpAt M' n := by
  rcases w with rfl | ⟨a, b, h0, rfl⟩
  · exact h
  · obtain ⟨a', b', _, h1⟩ := h
    exact ⟨a, b, h0, List.getElem?_set_self (List.getElem?_eq_some_iff.mp h1).1⟩
theorem Spw.refl {n : Nat} {M : Sto} : Spw n M M := .inl rfl
theorem Spw.trans {n : Nat} {M M1 M2 : Sto} (h : Spw n M M1) (w : Spw n M1 M2) : Spw n M M2 := by
  rcases w with rfl | ⟨a, b, h0, rfl⟩
  · exact h
  · rcases h with rfl | ⟨a', b', h0', rfl⟩
    · exact .inr ⟨a, b, h0, rfl⟩
    · exact .inr ⟨a, b, h0, by rw [List.set_set]⟩
theorem Spw.len {n : Nat} {M M' : Sto} (w : Spw n M M') : M'.length = M.length := by
  rcases w with rfl | ⟨a, b, h0, rfl⟩
  · rfl
  · rw [List.length_set]
theorem ixN0 {n : Nat} : L2.ixN (n + 1) 0 = some 0 := by
  unfold L2.ixN
  rw [if_pos (by omega), if_pos (by omega)]; rfl
theorem ixN1 {n : Nat} : L2.ixN (n + 2) 1 = some 1 := by
  unfold L2.ixN
  rw [if_pos (by omega), if_pos (by omega)]; rfl
theorem oIxl0 {a : P} {l : List P} : oIx (.lst (a :: l)) (.int 0) = some (.p a) := by
  show (L2.atI _ _).map _ = _
  rw [atI0]; rfl
theorem oIxl1 {a b : P} {l : List P} : oIx (.lst (a :: b :: l)) (.int 1) = some (.p b) := by
  show (L2.atI _ _).map _ = _
  rw [atI1]; rfl
theorem getl {M : Sto} {n : Nat} {ps : List P} (h : M[n]? = some (.lst ps)) : D.get M (.loc n) = some (.lst ps) := by
  rw [x_getl, h]
theorem sub_ok {fv fo fi : EvD} {σ : Fr} {M M1 M2 M3 : Sto} {d : D} {q : P} {n j : Nat} {k : Int} {ps : List P} (h1 : fv σ M = .ok d M1) (hd : d.val = .p q) (h2 : fo σ M1 = .ok (.loc n) M2) (h3 : fi σ M2 = .ok (.p (.int k)) M3)
    (h4 : M3[n]? = some (.lst ps)) (h5 : L2.ixN ps.length k = some j) : sSub fv fo fi σ M = .ok (.nx σ) (M3.set n (.lst (ps.set j q))) := by
  unfold sSub
  rw [h1]
  show (fo σ M1).toS σ _ = _
  rw [h2]
  show (fi σ M2).toS σ _ = _
  rw [h3]
  show (match d.val, D.loc n, D.p (.int k) with
  | .p q, .loc n, .p (.int k) => (match M3[n]? with
    | some (.lst ps) => (match L2.ixN ps.length k with
      | some j => OutS.ok (.nx σ) (M3.set n (.lst (ps.set j q)))
      | none => .no)
    | _ => .no)
  | _, _, _ => .no) = _
  rw [hd]
  dsimp only
  rw [h4]
  dsimp only
  rw [h5]
theorem sp_unwind {M : Sto} {n : Nat} {most : Int} (h : SpAt M n) (hm : 0 < most) (hm2 : most.natAbs < 2 ^ 1000) :
    ∃ r M', F__law_unwind [.loc n, .p (.int most)] M = .ok (.p (.int r)) M' ∧ Spw n M M' ∧ 0 ≤ r ∧ r < most := by
  obtain ⟨a, b, ha, hM⟩ := h
  have hn : n < M.length := (List.getElem?_eq_some_iff.mp hM).1
  have leave_ : ∀ {M' : Sto} {r : Int} {s : EvS} {σ : Fr}, s σ M = .ok (.rt (.p (.int r))) M' → M'.length = M.length → leave M.length (s σ M) = .ok (.p (.int r)) M' := by
    intro M' r s σ e hl
    rw [e, x_lv_p, ← hl, List.take_length]
  have i0 : ∀ σ : Fr, σ[0]? = some (some (.loc n)) → ∀ M a b, M[n]? = some (.lst [.int a, .int b]) → eBin oIx (eVar 0) (eC (.int 0)) σ M = .ok (.p (.int a)) M := fun σ h0 M a b hM =>
    bin_ok (d1 := .loc n) (d2 := .p (.int 0)) (M1 := M) (by rw [x_eVar, h0]) rfl (getl hM) rfl oIxl0
  have i1 : ∀ σ : Fr, σ[0]? = some (some (.loc n)) → ∀ M a b, M[n]? = some (.lst [.int a, .int b]) → eBin oIx (eVar 0) (eC (.int 1)) σ M = .ok (.p (.int b)) M := fun σ h0 M a b hM =>
    bin_ok (d1 := .loc n) (d2 := .p (.int 1)) (M1 := M) (by rw [x_eVar, h0]) rfl (getl hM) rfl oIxl1
  by_cases hp : 0 < a
  · refine ⟨a % most, M.set n (.lst [.int (a / most), .int b]), ?_, .inr ⟨_, _, Int.ediv_nonneg ha (Int.le_of_lt hm), rfl⟩, Int.emod_nonneg _ (Int.ne_of_gt hm), Int.emod_lt_of_pos _ hm⟩
    unfold F__law_unwind
    rw [fnB2]
    refine leave_ ?_ (by rw [List.length_set])
    unfold b__law_unwind
    have ec : eBin oGt (eBin oIx (eVar 0) (eC (.int 0))) (eC (.int 0)) [some (.loc n), some (.p (.int most)), none, none] M = .ok (.p (.bl (decide (0 < a)))) M :=
      bin_ok (d1 := .p (.int a)) (d2 := .p (.int 0)) (M1 := M) (i0 _ rfl _ _ _ hM) rfl rfl rfl rfl
    rw [decide_eq_true hp] at ec
    refine seq_rt (Eq.trans (if_t (bof_ok ec)) ?_)
    refine Eq.trans (seq_ok (set_ok (d := .p (.int (a % most))) (M1 := M) ?_)) ?_
    · refine bin_ok (d1 := .p (.int a)) (d2 := .p (.int most)) (M1 := M) ?_ rfl rfl rfl (o_mod_i hm)
      exact callB_ok (ds := [.p (.int a)]) (ps := [.int a]) (cons_ok (d := .p (.int a)) (M1 := M) (i0 _ rfl _ _ _ hM) nil_ok) rfl rfl
    refine Eq.trans (seq_ok (sub_ok (d := .p (.int (a / most))) (q := .int (a / most)) (n := n) (j := 0) (k := 0) (ps := [.int a, .int b]) (M1 := M) (M2 := M) (M3 := M) ?_ rfl rfl rfl hM ixN0)) ?_
    · exact bin_ok (d1 := .p (.int a)) (d2 := .p (.int most)) (M1 := M) (i0 _ rfl _ _ _ hM) rfl rfl rfl (oFdiv_ok hm hm2)
    exact seq_rt (ret_ok rfl)
  · let b' := (b * 42293 + 239) % 2147483423
    have hb0 : 0 ≤ b' := Int.emod_nonneg _ (by decide)
    have hb1 : b' < 2147483423 := Int.emod_lt_of_pos _ (by decide)
    have gb : (b * 42293 + 239) % 2147483423 = b' := rfl
    generalize b' = b1 at hb0 hb1 gb
    let M1 := M.set n (.lst [.int a, .int b1])
    have hM1 : M1[n]? = some (.lst [.int a, .int b1]) := List.getElem?_set_self hn
    let wd := b1 * (b1 / 5 + 61) % 2147483399
    refine ⟨wd / 32 % most, M1, ?_, .inr ⟨_, _, ha, rfl⟩, Int.emod_nonneg _ (Int.ne_of_gt hm), Int.emod_lt_of_pos _ hm⟩
    unfold F__law_unwind
    rw [fnB2]
    refine leave_ ?_ (by show (M.set n _).length = _; rw [List.length_set])
    unfold b__law_unwind
    have ec : eBin oGt (eBin oIx (eVar 0) (eC (.int 0))) (eC (.int 0)) [some (.loc n), some (.p (.int most)), none, none] M = .ok (.p (.bl (decide (0 < a)))) M :=
      bin_ok (d1 := .p (.int a)) (d2 := .p (.int 0)) (M1 := M) (i0 _ rfl _ _ _ hM) rfl rfl rfl rfl
    rw [decide_eq_false hp] at ec
    refine Eq.trans (seq_ok (Eq.trans (if_f (bof_ok ec)) rfl)) ?_
    refine Eq.trans (seq_ok (sub_ok (d := .p (.int b1)) (q := .int b1) (n := n) (j := 1) (k := 1) (ps := [.int a, .int b]) (M1 := M) (M2 := M) (M3 := M) ?_ rfl rfl rfl hM ixN1)) ?_
    · rw [← gb]
      refine bin_ok (d1 := .p (.int (b * 42293 + 239))) (d2 := .p (.int 2147483423)) (M1 := M) ?_ rfl rfl rfl (o_mod_i (by decide))
      refine callB_ok (ds := [.p (.int (b * 42293 + 239))]) (ps := [.int (b * 42293 + 239)]) (cons_ok (d := .p (.int (b * 42293 + 239))) (M1 := M) ?_ nil_ok) rfl rfl
      refine bin_ok (d1 := .p (.int (b * 42293))) (d2 := .p (.int 239)) (M1 := M) ?_ rfl rfl rfl rfl
      exact bin_ok (d1 := .p (.int b)) (d2 := .p (.int 42293)) (M1 := M) (i1 _ rfl _ _ _ hM) rfl rfl rfl (mul_r (by decide) (by decide))
    show sSeq _ _ _ M1 = _
    refine Eq.trans (seq_ok (set_ok (d := .p (.int wd)) (M1 := M1) ?_)) ?_
    · refine bin_ok (d1 := .p (.int (b1 * (b1 / 5 + 61)))) (d2 := .p (.int 2147483399)) (M1 := M1) ?_ rfl rfl rfl (o_mod_i (by decide))
      refine callB_ok (ds := [.p (.int (b1 * (b1 / 5 + 61)))]) (ps := [.int (b1 * (b1 / 5 + 61))]) (cons_ok (d := .p (.int (b1 * (b1 / 5 + 61)))) (M1 := M1) ?_ nil_ok) rfl rfl
      refine bin_ok (d1 := .p (.int b1)) (d2 := .p (.int (b1 / 5 + 61))) (M1 := M1) (i1 _ rfl _ _ _ hM1) ?_ rfl rfl (mul_l hb0 (Int.lt_trans hb1 (by decide)))
      refine bin_ok (d1 := .p (.int (b1 / 5))) (d2 := .p (.int 61)) (M1 := M1) ?_ rfl rfl rfl rfl
      exact bin_ok (d1 := .p (.int b1)) (d2 := .p (.int 5)) (M1 := M1) (i1 _ rfl _ _ _ hM1) rfl rfl rfl (oFdiv_ok (by decide) (by decide +kernel))
    refine seq_rt (ret_ok ?_)
    refine bin_ok (d1 := .p (.int (wd / 32))) (d2 := .p (.int most)) (M1 := M1) ?_ rfl rfl rfl (o_mod_i hm)
    refine callB_ok (ds := [.p (.int (wd / 32))]) (ps := [.int (wd / 32)]) (cons_ok (d := .p (.int (wd / 32))) (M1 := M1) ?_ nil_ok) rfl rfl
    exact bin_ok (d1 := .p (.int wd)) (d2 := .p (.int 32)) (M1 := M1) rfl rfl rfl rfl (oFdiv_ok (by decide) (by decide +kernel))
theorem sp_pick {M : Sto} {n : Nat} {d : D} {ps : List P} (h : SpAt M n) (hd : d = .p (.lst ps) ∨ d = .p (.tup ps)) (h0 : ps ≠ []) (hl : ps.length ≤ 1000) :
    ∃ q M', F__law_pick [.loc n, d] M = .ok (.p q) M' ∧ Spw n M M' ∧ q ∈ ps := by
  have hp : (0 : Int) < ps.length := by
    have := List.length_pos_iff.mpr h0
    omega
  have h1000 : (1000 : Nat) < 2 ^ 1000 := by decide +kernel
  obtain ⟨r, M', e, w, r0, r1⟩ := sp_unwind (most := ps.length) h hp (by omega)
  have hr : r.toNat < ps.length := by omega
  refine ⟨ps[r.toNat], M', ?_, w, List.getElem_mem hr⟩
  have hix : L2.atI ps r = some ps[r.toNat] := by
    have := atI_nat hr
    rwa [Int.toNat_of_nonneg r0] at this
  unfold F__law_pick
  rw [fnB2]
  have fin : ∀ q : P, (q = .lst ps ∨ q = .tup ps) → leave M.length (b__law_pick (some (.loc n) :: some (.p q) :: List.replicate (2 - 2) none) M) = .ok (.p ps[r.toNat]) M' := by
    intro q hq
    have e1 : b__law_pick (some (.loc n) :: some (.p q) :: List.replicate (2 - 2) none) M = .ok (.rt (.p ps[r.toNat])) M' := by
      unfold b__law_pick
      refine seq_rt (ret_ok (bin_ok (d1 := .p q) (d2 := .p (.int r)) (M1 := M) rfl (call_ok (n := 2) (ds := [.loc n, .p (.int ps.length)]) (M1 := M) (cons_ok (d := .loc n) (M1 := M) rfl (cons_ok (d := .p (.int ps.length)) (M1 := M) (callB_ok (ds := [.p q]) (ps := [q]) (cons_ok (d := .p q) (M1 := M) rfl nil_ok) rfl ?_) nil_ok)) rfl e) rfl rfl ?_))
      · rcases hq with rfl | rfl <;> rfl
      · rcases hq with rfl | rfl
        · show (L2.atI ps r).map _ = _
          rw [hix]; rfl
        · show (L2.atI ps r).map _ = _
          rw [hix]; rfl
    rw [e1, x_lv_p, ← w.len, List.take_length]
  rcases hd with rfl | rfl
  · exact fin _ (.inl rfl)
  · exact fin _ (.inr rfl)
theorem forL_inv {t : Tg} {b : EvS} (I : Fr → Sto → Prop) : ∀ (ps : List P) (σ : Fr) (M : Sto), I σ M → (∀ p ∈ ps, ∀ σ M, I σ M → ∃ σ1 σ2 M2, tgA t p σ = some σ1 ∧ b σ1 M = .ok (.nx σ2) M2 ∧ I σ2 M2) → ∃ σ' M', forL t b ps σ M = .ok (.nx σ') M' ∧ I σ' M'
  | [], σ, M, i, _ => ⟨σ, M, rfl, i⟩
  | p :: ps, σ, M, i, h => by
    obtain ⟨σ1, σ2, M2, e1, e2, i2⟩ := h p List.mem_cons_self σ M i
    obtain ⟨σ', M', e3, i3⟩ := forL_inv I ps σ2 M2 i2 fun q hq => h q (List.mem_cons_of_mem _ hq)
    exact ⟨σ', M', Eq.trans (forL_nx e1 e2) e3, i3⟩
end Ev

set_option linter.all false
set_option maxRecDepth 100000
set_option maxHeartbeats 4000000
/-! Spec17: law k14. -/
namespace Ev
open PySem
theorem in2 {a x y : Int} : oIn (.int a) (.tup [.int x, .int y]) = some (.p (.bl ((x == a) || (y == a)))) := by
  show (some (L2.inV (L2.V.int a) [L2.V.int x, L2.V.int y])).map _ = _
  simp [L2.inV, L2.eqV]
def bMo : EvS := (sSeq (sIf (bOf (eBin oIn (eBin oMod (eVar 2) (eBin oMul (eC (.int 2)) (eVar 0))) (eTup (aCons (eBin oSub (eVar 0) (eC (.int 1))) (aCons (eVar 0) aNil))))) (sSeq (sRet (eVar 3))
    sNil) sNil)
    (sSeq (sSet 4 (eBin oMod (eVar 2) (eBin oMul (eC (.int 2)) (eVar 0))))
    (sSeq (sSet 5 (eC (.int 1)))
    (sSeq (sIf (bOf (eBin oGt (eVar 4) (eVar 0))) (sSeq (sSet 5 (eBin oFdiv (eBin oAdd (eBin oSub (eBin oMul (eC (.int 2)) (eVar 0)) (eVar 4)) (eC (.int 6))) (eC (.int 7))))
    sNil) (sSeq (sIf (bOf (eBin oLt (eVar 4) (eBin oSub (eVar 0) (eC (.int 1))))) (sSeq (sSet 5 (eBin oFdiv (eBin oAdd (eBin oSub (eBin oSub (eVar 0) (eC (.int 1))) (eVar 4)) (eC (.int 6))) (eC (.int 7))))
    sNil) sNil)
    sNil))
    (sSeq (sPar [2, 3] (aCons (eBin oAdd (eVar 2) (eBin oMul (eC (.int 7)) (eVar 5))) (aCons (eBin oAdd (eVar 3) (eVar 5)) aNil)))
    sNil)))))
section
variable {m h k r : Int} {x1 x4 x5 : Option D} {M : Sto}
theorem mo_mod (hm : 0 < m) (hr : h % (2 * m) = r) (σ : Fr) (h0 : σ[0]? = some (some (.p (.int m)))) (h2 : σ[2]? = some (some (.p (.int h)))) : eBin oMod (eVar 2) (eBin oMul (eC (.int 2)) (eVar 0)) σ M = .ok (.p (.int r)) M := by
  rw [← hr]
  refine bin_ok (d1 := .p (.int h)) (d2 := .p (.int (2 * m))) (M1 := M) (by rw [x_eVar, h2]) ?_ rfl rfl (o_mod_i (by omega))
  exact bin_ok (d1 := .p (.int 2)) (d2 := .p (.int m)) (M1 := M) rfl (by rw [x_eVar, h0]) rfl rfl oMul2
theorem mo_in (hm : 0 < m) (hr : h % (2 * m) = r) : bOf (eBin oIn (eBin oMod (eVar 2) (eBin oMul (eC (.int 2)) (eVar 0))) (eTup (aCons (eBin oSub (eVar 0) (eC (.int 1))) (aCons (eVar 0) aNil)))) [some (.p (.int m)), x1, some (.p (.int h)), some (.p (.int k)), x4, x5] M = .ok ((m - 1 == r) || (m == r)) M := by
  refine bof_ok (bin_ok (d1 := .p (.int r)) (d2 := .p (.tup [.int (m - 1), .int m])) (M1 := M) (mo_mod hm hr _ rfl rfl) ?_ rfl rfl in2)
  exact tup_ok (ds := [.p (.int (m - 1)), .p (.int m)]) rfl rfl two_lim
theorem mo_ret (hm : 0 < m) (hr : h % (2 * m) = r) (hi : r = m - 1) : bMo [some (.p (.int m)), x1, some (.p (.int h)), some (.p (.int k)), x4, x5] M = .ok (.rt (.p (.int k))) M := by
  unfold bMo
  have e := mo_in (x1 := x1) (x4 := x4) (x5 := x5) (k := k) (M := M) hm hr
  rw [hi, beq_self_eq_true, Bool.true_or] at e
  exact seq_rt (Eq.trans (if_t e) (seq_rt (ret_ok rfl)))
theorem mo_up {s : Int} (hm : 0 < m) (hr : h % (2 * m) = r) (hi : m < r) (hs : (2 * m - r + 6) / 7 = s) : bMo [some (.p (.int m)), x1, some (.p (.int h)), some (.p (.int k)), x4, x5] M =
    .ok (.nx [some (.p (.int m)), x1, some (.p (.int (h + 7 * s))), some (.p (.int (k + s))), some (.p (.int r)), some (.p (.int s))]) M := by
  unfold bMo
  have e := mo_in (x1 := x1) (x4 := x4) (x5 := x5) (k := k) (M := M) hm hr
  rw [show (m - 1 == r) = false by rw [beq_eq_false_iff_ne]; omega, show (m == r) = false by rw [beq_eq_false_iff_ne]; omega] at e
  refine Eq.trans (seq_ok (Eq.trans (if_f e) rfl)) ?_
  refine Eq.trans (seq_ok (set_ok (d := .p (.int r)) (M1 := M) (mo_mod hm hr _ rfl rfl))) ?_
  refine Eq.trans (seq_ok (set_ok (d := .p (.int 1)) (M1 := M) rfl)) ?_
  have e2 : bOf (eBin oGt (eVar 4) (eVar 0)) [some (.p (.int m)), x1, some (.p (.int h)), some (.p (.int k)), some (.p (.int r)), some (.p (.int 1))] M = .ok (decide (m < r)) M :=
    bof_ok (bin_ok (d1 := .p (.int r)) (d2 := .p (.int m)) (M1 := M) rfl rfl rfl rfl rfl)
  rw [decide_eq_true hi] at e2
  refine Eq.trans (seq_ok (Eq.trans (if_t e2) (seq_ok (set_ok (d := .p (.int s)) (M1 := M) ?_)))) ?_
  · rw [← hs]
    refine bin_ok (d1 := .p (.int (2 * m - r + 6))) (d2 := .p (.int 7)) (M1 := M) ?_ rfl rfl rfl (oFdiv_ok (by decide) (by decide +kernel))
    refine bin_ok (d1 := .p (.int (2 * m - r))) (d2 := .p (.int 6)) (M1 := M) ?_ rfl rfl rfl rfl
    refine bin_ok (d1 := .p (.int (2 * m))) (d2 := .p (.int r)) (M1 := M) ?_ rfl rfl rfl rfl
    exact bin_ok (d1 := .p (.int 2)) (d2 := .p (.int m)) (M1 := M) rfl rfl rfl rfl oMul2
  refine Eq.trans (seq_ok (par_ok (ds := [.p (.int (h + 7 * s)), .p (.int (k + s))]) (M1 := M) (cons_ok (d := .p (.int (h + 7 * s))) (M1 := M) ?_ (cons_ok (d := .p (.int (k + s))) (M1 := M) ?_ nil_ok)) rfl)) rfl
  · refine bin_ok (d1 := .p (.int h)) (d2 := .p (.int (7 * s))) (M1 := M) rfl ?_ rfl rfl rfl
    exact bin_ok (d1 := .p (.int 7)) (d2 := .p (.int s)) (M1 := M) rfl rfl rfl rfl (mul_l (by decide) (by decide))
  · exact bin_ok (d1 := .p (.int k)) (d2 := .p (.int s)) (M1 := M) rfl rfl rfl rfl rfl
theorem mo_dn {s : Int} (hm : 0 < m) (hr : h % (2 * m) = r) (hi : r < m - 1) (hs : (m - 1 - r + 6) / 7 = s) : bMo [some (.p (.int m)), x1, some (.p (.int h)), some (.p (.int k)), x4, x5] M =
    .ok (.nx [some (.p (.int m)), x1, some (.p (.int (h + 7 * s))), some (.p (.int (k + s))), some (.p (.int r)), some (.p (.int s))]) M := by
  unfold bMo
  have e := mo_in (x1 := x1) (x4 := x4) (x5 := x5) (k := k) (M := M) hm hr
  rw [show (m - 1 == r) = false by rw [beq_eq_false_iff_ne]; omega, show (m == r) = false by rw [beq_eq_false_iff_ne]; omega] at e
  refine Eq.trans (seq_ok (Eq.trans (if_f e) rfl)) ?_
  refine Eq.trans (seq_ok (set_ok (d := .p (.int r)) (M1 := M) (mo_mod hm hr _ rfl rfl))) ?_
  refine Eq.trans (seq_ok (set_ok (d := .p (.int 1)) (M1 := M) rfl)) ?_
  have e2 : bOf (eBin oGt (eVar 4) (eVar 0)) [some (.p (.int m)), x1, some (.p (.int h)), some (.p (.int k)), some (.p (.int r)), some (.p (.int 1))] M = .ok (decide (m < r)) M :=
    bof_ok (bin_ok (d1 := .p (.int r)) (d2 := .p (.int m)) (M1 := M) rfl rfl rfl rfl rfl)
  rw [decide_eq_false (by omega)] at e2
  have e3 : bOf (eBin oLt (eVar 4) (eBin oSub (eVar 0) (eC (.int 1)))) [some (.p (.int m)), x1, some (.p (.int h)), some (.p (.int k)), some (.p (.int r)), some (.p (.int 1))] M = .ok (decide (r < m - 1)) M :=
    bof_ok (bin_ok (d1 := .p (.int r)) (d2 := .p (.int (m - 1))) (M1 := M) rfl (bin_ok (d1 := .p (.int m)) (d2 := .p (.int 1)) (M1 := M) rfl rfl rfl rfl rfl) rfl rfl rfl)
  rw [decide_eq_true hi] at e3
  refine Eq.trans (seq_ok (Eq.trans (if_f e2) (seq_ok (Eq.trans (if_t e3) (seq_ok (set_ok (d := .p (.int s)) (M1 := M) ?_)))))) ?_
  · rw [← hs]
    refine bin_ok (d1 := .p (.int (m - 1 - r + 6))) (d2 := .p (.int 7)) (M1 := M) ?_ rfl rfl rfl (oFdiv_ok (by decide) (by decide +kernel))
    refine bin_ok (d1 := .p (.int (m - 1 - r))) (d2 := .p (.int 6)) (M1 := M) ?_ rfl rfl rfl rfl
    refine bin_ok (d1 := .p (.int (m - 1))) (d2 := .p (.int r)) (M1 := M) ?_ rfl rfl rfl rfl
    exact bin_ok (d1 := .p (.int m)) (d2 := .p (.int 1)) (M1 := M) rfl rfl rfl rfl rfl
  refine Eq.trans (seq_ok (par_ok (ds := [.p (.int (h + 7 * s)), .p (.int (k + s))]) (M1 := M) (cons_ok (d := .p (.int (h + 7 * s))) (M1 := M) ?_ (cons_ok (d := .p (.int (k + s))) (M1 := M) ?_ nil_ok)) rfl)) rfl
  · refine bin_ok (d1 := .p (.int h)) (d2 := .p (.int (7 * s))) (M1 := M) rfl ?_ rfl rfl rfl
    exact bin_ok (d1 := .p (.int 7)) (d2 := .p (.int s)) (M1 := M) rfl rfl rfl rfl (mul_l (by decide) (by decide))
  · exact bin_ok (d1 := .p (.int k)) (d2 := .p (.int s)) (M1 := M) rfl rfl rfl rfl rfl
end
/-- how many steps of seven, rounded up -/
theorem up7 {m a b : Int} {σ : Fr} {M : Sto} (h0 : σ[0]? = some (some (.p (.int m)))) (ha : (m - 2) / 7 = a) (hb : a + 1 = b) (hc : 0 < (m - 2) % 7) :
    eBin oAdd (eBin oFdiv (eBin oSub (eVar 0) (eC (.int 2))) (eC (.int 7))) (eCB cInt (aCons (eBin oGt (eBin oMod (eBin oSub (eVar 0) (eC (.int 2))) (eC (.int 7))) (eC (.int 0))) aNil)) σ M = .ok (.p (.int b)) M := by
  have e1 : eBin oSub (eVar 0) (eC (.int 2)) σ M = .ok (.p (.int (m - 2))) M := bin_ok (d1 := .p (.int m)) (d2 := .p (.int 2)) (M1 := M) (by rw [x_eVar, h0]) rfl rfl rfl rfl
  rw [← hb, ← ha]
  refine bin_ok (d1 := .p (.int ((m - 2) / 7))) (d2 := .p (.int 1)) (M1 := M) ?_ ?_ rfl rfl rfl
  · exact bin_ok (d1 := .p (.int (m - 2))) (d2 := .p (.int 7)) (M1 := M) e1 rfl rfl rfl (oFdiv_ok (by decide) (by decide +kernel))
  · refine callB_ok (ds := [.p (.bl true)]) (ps := [.bl true]) (cons_ok (d := .p (.bl true)) (M1 := M) ?_ nil_ok) rfl rfl
    refine bin_ok (d1 := .p (.int ((m - 2) % 7))) (d2 := .p (.int 0)) (M1 := M) ?_ rfl rfl rfl ?_
    · exact bin_ok (d1 := .p (.int (m - 2))) (d2 := .p (.int 7)) (M1 := M) e1 rfl rfl rfl (o_mod_i (by decide))
    · rw [o_gt_i, decide_eq_true hc]
theorem sp_more {m q : Int} {M : Sto} (hm : m = 7 * q + 1) (hq : 3 ≤ q) : F__law_more [.p (.int m)] M = .ok (.p (.int (2 * q))) M := by
  have h2 : 2 * q = 0 + q + q := by omega
  rw [h2]
  unfold F__law_more
  rw [fnB1]
  refine lv_p ?_
  unfold b__law_more
  have e1 : eBin oAdd (eC (.int 2)) (eBin oMul (eC (.int 7)) (eBin oAdd (eBin oFdiv (eBin oSub (eVar 0) (eC (.int 2))) (eC (.int 7))) (eCB cInt (aCons (eBin oGt (eBin oMod (eBin oSub (eVar 0) (eC (.int 2))) (eC (.int 7))) (eC (.int 0))) aNil)))) (some (.p (.int m)) :: List.replicate (6 - 1) none) M = .ok (.p (.int (2 + 7 * q))) M := by
    refine bin_ok (d1 := .p (.int 2)) (d2 := .p (.int (7 * q))) (M1 := M) rfl ?_ rfl rfl rfl
    exact bin_ok (d1 := .p (.int 7)) (d2 := .p (.int q)) (M1 := M) rfl (up7 (m := m) (a := q - 1) (b := q) rfl (by omega) (by omega) (by omega)) rfl rfl (mul_l (by decide) (by decide))
  refine Eq.trans (seq_ok (par_ok (ds := [.p (.int (2 + 7 * q)), .p (.int 0)]) (M1 := M) (cons_ok (d := .p (.int (2 + 7 * q))) (M1 := M) e1 (cons_ok (d := .p (.int 0)) (M1 := M) rfl nil_ok)) rfl)) ?_
  obtain ⟨rest, er⟩ : ∃ rest, rgs 0 20 = .int 0 :: .int 1 :: .int 2 :: rest := ⟨_, rfl⟩
  have ef : iRange1 (aCons (eC (.int 20)) aNil) [some (.p (.int m)), none, some (.p (.int (2 + 7 * q))), some (.p (.int 0)), none, none] M = .ok (.int 0 :: .int 1 :: .int 2 :: rest) M := by
    rw [← er]
    exact rng_ok (n := 20) (M1 := M) rfl (Nat.le_trans (by decide) lim_big)
  refine seq_rt (Eq.trans (for_ok (M1 := M) ef) ?_)
  refine Eq.trans (forL_nx x_nm (mo_up (m := m) (h := 2 + 7 * q) (k := 0) (r := 7 * q + 2) (s := q) (by omega) (by rw [Int.emod_eq_of_lt] <;> omega) (by omega) (by omega))) ?_
  refine Eq.trans (forL_nx x_nm (mo_dn (m := m) (h := 2 + 7 * q + 7 * q) (k := 0 + q) (r := 0) (s := q) (by omega) (by rw [show 2 + 7 * q + 7 * q = 2 * m by omega]; exact Int.emod_self) (by omega) (by omega))) ?_
  refine forL_rt x_nm ?_
  have := mo_ret (m := m) (x1 := some (.p (.int 2))) (h := 2 + 7 * q + 7 * q + 7 * q) (k := 0 + q + q) (r := m - 1) (x4 := some (.p (.int 0))) (x5 := some (.p (.int q))) (M := M) (by omega) (by
    rw [show 2 + 7 * q + 7 * q + 7 * q = (m - 1) + 2 * m * 1 by omega, Int.add_mul_emod_self_left]
    exact Int.emod_eq_of_lt (by omega) (by omega)) rfl
  exact this
theorem eqi {a b : Int} (h : a = b) : oEq (.int a) (.int b) = some (.p (.bl true)) := by rw [o_eq_i, decide_eq_true h]
theorem eq_pair {a b : Int} : oEq (.tup [.int a, .int b]) (.tup [.int a, .int b]) = some (.p (.bl true)) := oEq_refl (by simp [datB, datLB])
theorem eq_lpair {a b : Int} : oEq (.lst [.tup [.int a, .int b]]) (.lst [.tup [.int a, .int b]]) = some (.p (.bl true)) := oEq_refl (by simp [datB, datLB])
theorem str_x : ("x" : Str) = sg 120 := by rfl
theorem str_y : ("y" : Str) = sg 121 := by rfl
theorem str_b : ("b" : Str) = sg 98 := by rfl
theorem str_r : ("r" : Str) = sg 114 := by rfl
theorem str_yx : ("yx" : Str) = ⟨#[121, 120]⟩ := by rfl
theorem str_rr : ("rr" : Str) = ⟨#[114, 114]⟩ := by rfl
theorem str_br : ("br" : Str) = ⟨[98, 114].toArray⟩ := by rfl
theorem l_x : LOk gst (sg 120) := ⟨by simp, by simp, by simp [sgs, gst]⟩
theorem l_y : LOk gst (sg 121) := ⟨by simp, by simp, by simp [sgs, gst]⟩
theorem l_yx : LOk gst ⟨#[121, 120]⟩ := ⟨by simp, by simp, by simp [sgs, gst]⟩
theorem w_b : WOk (sg 120) (sg 98) := ⟨by simp, by simp⟩
theorem w_rr : WOk ⟨#[121, 120]⟩ ⟨#[114, 114]⟩ := ⟨by simp, by simp⟩
theorem app2 {i : Nat} {e : EvD} {σ : Fr} {M : Sto} {ps : List P} {q : P} (h1 : σ[i]? = some (some (.loc M.length))) (h2 : e σ (M ++ [.lst ps]) = .ok (.p q) (M ++ [.lst ps])) (h3 : ps.length < lim) :
    sExpr (eLm appK (eVar i) (aCons e aNil)) σ (M ++ [.lst ps]) = .ok (.nx σ) (M ++ [.lst (ps ++ [q])]) := app_ok h1 (cons_ok (d := .p q) h2 nil_ok) h3
theorem sp_great {m q : Int} {M : Sto} (hm : m = 7 * q + 1) (hq : 3 ≤ q) (hg : m ≤ GRT) : F__law_great [.p (.int m)] M = .ok (.nw (List.replicate 7 (.bl true))) M := by
  have hb := lim_big
  have h := gb_ok (m := m) (by omega) hg
  have i7 : ∀ n : Nat, n ≤ 1000 → n ≤ lim := fun n hn => Nat.le_trans hn lim_big
  have i8 : ∀ n : Nat, n < 1000 → n < lim := fun n hn => Nat.lt_of_lt_of_le hn lim_big
  have gl := gb_len (m := m)
  unfold F__law_great
  rw [fnB1]
  refine lv_l ?_
  unfold b__law_great
  refine Eq.trans (seq_ok (set_ok (d := .p (machP (gb m) gst)) (M1 := M) ?_)) ?_
  · exact tup_ok (ds := [.p (.tup [.tup [.str (sg 98), .int (m - 1)], .tup [.str (sg 114), .int 1]]), .p (.tup [.int 1, .int 7])]) (cons_ok (d := .p (.tup [.tup [.str (sg 98), .int (m - 1)], .tup [.str (sg 114), .int 1]])) (M1 := M)
      (tup_ok (ds := [.p (.tup [.str (sg 98), .int (m - 1)]), .p (.tup [.str (sg 114), .int 1])]) (cons_ok (d := .p (.tup [.str (sg 98), .int (m - 1)])) (M1 := M) (tup_ok (ds := [.p (.str (sg 98)), .p (.int (m - 1))]) rfl rfl (i7 _ (by simp))) (cons_ok (d := .p (.tup [.str (sg 114), .int 1])) (M1 := M) (tup_ok (ds := [.p (.str (sg 114)), .p (.int 1)]) rfl rfl (i7 _ (by simp))) nil_ok)) rfl (i7 _ (by simp)))
      (cons_ok (d := .p (.tup [.int 1, .int 7])) (M1 := M) (tup_ok (ds := [.p (.int 1), .p (.int 7)]) rfl rfl (i7 _ (by simp))) nil_ok)) rfl (i7 _ (by simp))
  have fl : ∀ (σ : Fr) (M : Sto) (b : Int) (eb : EvD) (l col : Str) (l' col' : Str) (x : Int), σ[1]? = some (some (.p (machP (gb m) gst))) → eb σ M = .ok (.p (.int b)) M → 0 ≤ b → b ≤ 2 * m - 1 → l = l' → LOk gst l' → 0 < (cs l').length → col = col' → isLet col' "bgr" = true → byS (gb m) gst b l' 0 col' = some x →
      eCall 5 F_first_line (aCons (eVar 1) (aCons eb (aCons (eC (.str l)) (aCons (eC (.int 0)) (aCons (eC (.str col)) aNil))))) σ M = .ok (.p (.int x)) M := by
    intro σ M b eb l col l' col' x h1 e0 b0 b1 hl1 hl2 hl3 hc1 hc2 hx
    subst hl1 hc1
    have := sp_first_line (M := M) (i := 0) h b0 (by rw [gl]; exact b1) hl2 hl3 hc2
    rw [hx] at this
    exact call_ok (n := 5) (ds := [.p (machP (gb m) gst), .p (.int b), .p (.str l), .p (.int 0), .p (.str col)]) (M1 := M) (cons_ok (d := .p (machP (gb m) gst)) (M1 := M) (by rw [x_eVar, h1]) (cons_ok (d := .p (.int b)) (M1 := M) e0 rfl)) rfl this
  have m1 : ∀ (σ : Fr) (M : Sto), σ[0]? = some (some (.p (.int m))) → eBin oSub (eVar 0) (eC (.int 1)) σ M = .ok (.p (.int (m - 1))) M := fun σ M h0 =>
    bin_ok (d1 := .p (.int m)) (d2 := .p (.int 1)) (M1 := M) (by rw [x_eVar, h0]) rfl rfl rfl rfl
  have m2 : ∀ (σ : Fr) (M : Sto), σ[0]? = some (some (.p (.int m))) → eBin oMul (eC (.int 2)) (eVar 0) σ M = .ok (.p (.int (2 * m))) M := fun σ M h0 =>
    bin_ok (d1 := .p (.int 2)) (d2 := .p (.int m)) (M1 := M) rfl (by rw [x_eVar, h0]) rfl rfl oMul2
  refine Eq.trans (seq_ok (setM_ok (ps := [.bl true, .bl true]) (M1 := M) ?_)) ?_
  · refine lst_ok (ds := [.p (.bl true), .p (.bl true)]) (cons_ok (d := .p (.bl true)) (M1 := M) ?_ (cons_ok (d := .p (.bl true)) (M1 := M) ?_ nil_ok)) rfl (i7 _ (by simp))
    · refine bin_ok (d1 := .p (.int q)) (d2 := .p (.int ((m - 1) / 7))) (M1 := M) (fl _ _ 0 _ _ _ (sg 121) (sg 114) q rfl rfl (by decide) (by omega) str_y l_y (by simp) str_r rfl (by_0y hm hq)) ?_ rfl rfl (eqi (by omega))
      exact bin_ok (d1 := .p (.int (m - 1))) (d2 := .p (.int 7)) (M1 := M) (m1 _ _ rfl) rfl rfl rfl (oFdiv_ok (by decide) (by decide +kernel))
    · have e := sp_first_off (M := M) h (b := 0) (by decide) (by rw [gl]; omega) l_x w_b
      rw [off_0 hm hq] at e
      exact bin_ok (d1 := .p (.tup [.int (m - 1), .int 0])) (d2 := .p (.tup [.int (m - 1), .int 0])) (M1 := M) (call_ok (n := 4) (ds := [.p (machP (gb m) gst), .p (.int 0), .p (.str (sg 120)), .p (.str (sg 98))]) (M1 := M) rfl rfl e)
        (tup_ok (ds := [.p (.int (m - 1)), .p (.int 0)]) (cons_ok (d := .p (.int (m - 1))) (M1 := M) (m1 _ _ rfl) rfl) rfl (i7 _ (by simp))) rfl rfl eq_pair
  refine Eq.trans (seq_ok (app2 (q := .bl true) rfl ?_ (i8 _ (by simp)))) ?_
  · generalize hM : M ++ [MO.lst [P.bl true, P.bl true]] = M'
    have e := sp_period (M := M') h l_x
    rw [per_x hm hq] at e
    have e2 := sp_wear (M := M') (b := 0) (lines := m) (place := 5) h (by decide) (by rw [gl]; omega) l_x (by omega) hg (by decide) (by rw [gl]; omega)
    rw [wear_5 hm hq] at e2
    exact and_t (M1 := M') (bin_ok (d1 := .p (.int (2 * m))) (d2 := .p (.int (2 * m))) (M1 := M') (call_ok (n := 2) (ds := [.p (machP (gb m) gst), .p (.str (sg 120))]) (M1 := M') rfl rfl e) (m2 _ _ rfl) rfl rfl (eqi rfl))
      (bin_ok (d1 := .p (.int 1)) (d2 := .p (.int 1)) (M1 := M') (call_ok (n := 5) (ds := [.p (machP (gb m) gst), .p (.int 0), .p (.str (sg 120)), .p (.int m), .p (.int 5)]) (M1 := M') rfl rfl e2) rfl rfl rfl (eqi rfl))
  refine Eq.trans (seq_ok (app2 (q := .bl true) rfl ?_ (i8 _ (by simp)))) ?_
  · generalize hM : M ++ [MO.lst ([P.bl true, P.bl true] ++ [P.bl true])] = M'
    have e := sp_begins_for (M := M') (w := sg 114) h l_x (by simp) (by simp) (by
      refine ⟨fun _ => ?_, trivial⟩
      show (sharedS [(0, 2 * lenS (gb m) - 1)] (reachS (gb m) gst (sg 120) (114, 0))).length ≤ lim
      rw [beg_1 hm hq, gl, beg_2 hm hq]
      exact i7 1 (by decide))
    rw [beg_x hm hq] at e
    refine bin_ok (d1 := .p (.lst [.tup [.int (m - 1), .int m]])) (d2 := .nw [.tup [.int (m - 1), .int m]]) (M1 := M') (call_ok (n := 3) (ds := [.p (machP (gb m) gst), .p (.str (sg 120)), .p (.str (sg 114))]) (M1 := M') rfl rfl e) ?_ rfl rfl eq_lpair
    exact lst_ok (ds := [.p (.tup [.int (m - 1), .int m])]) (cons_ok (d := .p (.tup [.int (m - 1), .int m])) (M1 := M') (tup_ok (ds := [.p (.int (m - 1)), .p (.int m)]) (cons_ok (d := .p (.int (m - 1))) (M1 := M') (m1 _ _ rfl) rfl) rfl (i7 _ (by simp))) nil_ok) rfl (i7 _ (by simp))
  refine Eq.trans (seq_ok (app2 (q := .bl true) rfl ?_ (i8 _ (by simp)))) ?_
  · generalize hM : M ++ [MO.lst ([P.bl true, P.bl true] ++ [P.bl true] ++ [P.bl true])] = M'
    have e := sp_blind_steps (M := M') (b := 0) h (by decide) (by rw [gl]; omega) l_yx w_rr
    rw [blind_x hm hq] at e
    refine bin_ok (d1 := .p (.tup [.int (m - 1), .int (2 * m - 7)])) (d2 := .p (.tup [.int (m - 1), .int (2 * m - 7)])) (M1 := M') (call_ok (n := 4) (ds := [.p (machP (gb m) gst), .p (.int 0), .p (.str ⟨#[121, 120]⟩), .p (.str ⟨#[114, 114]⟩)]) (M1 := M') rfl rfl e) ?_ rfl rfl eq_pair
    exact tup_ok (ds := [.p (.int (m - 1)), .p (.int (2 * m - 7))]) (cons_ok (d := .p (.int (m - 1))) (M1 := M') (m1 _ _ rfl) (cons_ok (d := .p (.int (2 * m - 7))) (M1 := M') (bin_ok (d1 := .p (.int (2 * m))) (d2 := .p (.int 7)) (M1 := M') (m2 _ _ rfl) rfl rfl rfl rfl) nil_ok)) rfl (i7 _ (by simp))
  refine Eq.trans (seq_ok (app2 (q := .bl true) rfl ?_ (i8 _ (by simp)))) ?_
  · generalize hM : M ++ [MO.lst ([P.bl true, P.bl true] ++ [P.bl true] ++ [P.bl true] ++ [P.bl true])] = M'
    have e := sp_ever (M := M') (b := 3) (i := 0) h (by decide) (by rw [gl]; omega) l_y (by simp)
    rw [ever_3 hm hq] at e
    refine and_t (M1 := M') (bin_ok (d1 := .p (.int (2 * m - 2))) (d2 := .p (.int (2 * m - 2))) (M1 := M') (fl _ _ (m + 1) _ _ _ (sg 120) (sg 114) (2 * m - 2) rfl (bin_ok (d1 := .p (.int m)) (d2 := .p (.int 1)) (M1 := M') rfl rfl rfl rfl rfl) (by omega) (by omega) str_x l_x (by simp) str_r rfl (by_mx hm hq))
      (bin_ok (d1 := .p (.int (2 * m))) (d2 := .p (.int 2)) (M1 := M') (m2 _ _ rfl) rfl rfl rfl rfl) rfl rfl (eqi rfl)) ?_
    refine bin_ok (d1 := .p (.str ⟨[98, 114].toArray⟩)) (d2 := .p (.str ⟨[98, 114].toArray⟩)) (M1 := M') (call_ok (n := 4) (ds := [.p (machP (gb m) gst), .p (.int 3), .p (.str (sg 121)), .p (.int 0)]) (M1 := M') rfl rfl e) rfl rfl rfl ?_
    rw [o_eq_s, decide_eq_true rfl]
  refine Eq.trans (seq_ok (app2 (q := .bl true) rfl ?_ (i8 _ (by simp)))) ?_
  · generalize hM : M ++ [MO.lst ([P.bl true, P.bl true] ++ [P.bl true] ++ [P.bl true] ++ [P.bl true] ++ [P.bl true])] = M'
    refine bin_ok (d1 := .p (.int (3 * q))) (d2 := .p (.int (q + 2 * q))) (M1 := M') (fl _ _ 2 _ _ _ (sg 121) (sg 114) (3 * q) rfl rfl (by decide) (by omega) str_y l_y (by simp) str_r rfl (by_2y hm hq)) ?_ rfl rfl (eqi (by omega))
    refine bin_ok (d1 := .p (.int q)) (d2 := .p (.int (2 * q))) (M1 := M') (up7 (m := m) (a := q - 1) (b := q) rfl (by omega) (by omega) (by omega)) (call_ok (n := 1) (ds := [.p (.int m)]) (M1 := M') rfl rfl (sp_more hm hq)) rfl rfl rfl
  exact seq_rt (ret_ok rfl)
theorem sp_small {M : Sto} : F__law_small [] [] = .ok (.nw (List.replicate 13 (.bl true))) [] := by kernel_rfl
end Ev

set_option linter.all false
set_option maxRecDepth 100000
set_option maxHeartbeats 4000000
/-! Spec18: the law k14. -/
namespace Ev
open PySem
theorem forL_invN {t : Tg} {b : EvS} (I : Nat → Fr → Sto → Prop) : ∀ (ps : List P) (n : Nat) (σ : Fr) (M : Sto), I n σ M → (∀ p ∈ ps, ∀ n σ M, I n σ M → ∃ σ1 σ2 M2, tgA t p σ = some σ1 ∧ b σ1 M = .ok (.nx σ2) M2 ∧ I (n + 1) σ2 M2) → ∃ σ' M', forL t b ps σ M = .ok (.nx σ') M' ∧ I (n + ps.length) σ' M'
  | [], n, σ, M, i, _ => ⟨σ, M, rfl, i⟩
  | p :: ps, n, σ, M, i, h => by
    obtain ⟨σ1, σ2, M2, e1, e2, i2⟩ := h p List.mem_cons_self n σ M i
    obtain ⟨σ', M', e3, i3⟩ := forL_invN I ps (n + 1) σ2 M2 i2 fun q hq => h q (List.mem_cons_of_mem _ hq)
    refine ⟨σ', M', Eq.trans (forL_nx e1 e2) e3, ?_⟩
    rw [List.length_cons, show n + (ps.length + 1) = n + 1 + ps.length by omega]
    exact i3
theorem small3 {a b c : MO} : F__law_small [] [a, b, c] = .ok (.nw (List.replicate 13 (.bl true))) [a, b, c] := by kernel_rfl
theorem small4 {a b c d : MO} : F__law_small [] [a, b, c, d] = .ok (.nw (List.replicate 13 (.bl true))) [a, b, c, d] := by kernel_rfl
theorem small5 {a b c d e : MO} : F__law_small [] [a, b, c, d, e] = .ok (.nw (List.replicate 13 (.bl true))) [a, b, c, d, e] := by kernel_rfl
theorem small6 {a b c d e f : MO} : F__law_small [] [a, b, c, d, e, f] = .ok (.nw (List.replicate 13 (.bl true))) [a, b, c, d, e, f] := by kernel_rfl
theorem small_ {M : Sto} (h1 : 3 ≤ M.length) (h2 : M.length ≤ 6) : F__law_small [] M = .ok (.nw (List.replicate 13 (.bl true))) M := by
  match M, h1, h2 with
  | [a, b, c], _, _ => exact small3
  | [a, b, c, d], _, _ => exact small4
  | [a, b, c, d, e], _, _ => exact small5
  | [a, b, c, d, e, f], _, _ => exact small6
  | [], h, _ => simp at h
  | [_], h, _ => simp at h
  | [_, _], h, _ => simp at h
  | _ :: _ :: _ :: _ :: _ :: _ :: _ :: _, _, h => simp at h
theorem p10 : oPow (.int 10) (.int 9) = some (.p (.int (10 ^ 9))) := by kernel_rfl
theorem p28 : oPow (.int 10) (.int 28) = some (.p (.int (10 ^ 28))) := by kernel_rfl
def bLaw : EvS := (sSeq (sSetM 2 (eCall 2 F__law_spool (aCons (eVar 0) (aCons (eVar 1) aNil))))
    (sSeq (sSet 3 (eBin oAdd (eBin oMul (eC (.int 7)) (eBin oAdd (eC (.int 3)) (eCall 2 F__law_unwind (aCons (eVar 2) (aCons (eCall 2 F__law_pick (aCons (eVar 2) (aCons (eLst (aCons (eC (.int 9)) (aCons (eBin oPow (eC (.int 10)) (eC (.int 9))) (aCons (eBin oPow (eC (.int 10)) (eC (.int 28))) aNil)))) aNil))) aNil))))) (eC (.int 1))))
    (sSeq (sIf (bOf (eBin oIn (eC (.bl false)) (eCall 1 F__law_great (aCons (eVar 3) aNil)))) (sSeq (sRet (eC (.bl false)))
    sNil) sNil)
    sNil)))
theorem bLaw_ok {ns : List Int} {k : Nat} {x2 x3 : Option D} {M : Sto} : ∃ y2 y3 M', bLaw [some (.p (.scr ns)), some (.p (.int (k : Int))), x2, x3] M = .ok (.nx [some (.p (.scr ns)), some (.p (.int (k : Int))), y2, y3]) M' ∧ M'.length = M.length + 1 := by
  obtain ⟨a, b, ha, e1⟩ := sp_spool (ns := ns) (k := k) (M := M)
  have i7 : ∀ n : Nat, n ≤ 1000 → n ≤ lim := fun n hn => Nat.le_trans hn lim_big
  let M1 : Sto := M ++ [.lst [.int a, .int b]]
  have s1 : SpAt M1 M.length := ⟨a, b, ha, st_get⟩
  obtain ⟨q1, M2, e2, w2, hq⟩ := sp_pick (ps := [.int 9, .int (10 ^ 9), .int (10 ^ 28)]) s1 (.inl rfl) (by simp) (by decide)
  obtain ⟨most, rfl, hm0, hm1⟩ : ∃ most : Int, q1 = .int most ∧ 0 < most ∧ most ≤ 10 ^ 28 := by
    simp only [List.mem_cons, List.not_mem_nil, or_false] at hq
    rcases hq with rfl | rfl | rfl
    · exact ⟨9, rfl, by decide, by decide⟩
    · exact ⟨10 ^ 9, rfl, by decide, by decide⟩
    · exact ⟨10 ^ 28, rfl, by decide, by decide⟩
  have hma : most.natAbs < 2 ^ 1000 := nat1000 (Int.le_of_lt hm0) (Int.lt_of_le_of_lt hm1 (by decide +kernel))
  obtain ⟨r, M3, e3, w3, r0, r1⟩ := sp_unwind (w2.at s1) hm0 hma
  have hq3 : 7 * (3 + r) + 1 ≤ GRT := by
    have : (7 : Int) * (3 + 10 ^ 28) + 1 ≤ GRT := by decide +kernel
    omega
  refine ⟨some (.loc M.length), some (.p (.int (7 * (3 + r) + 1))), M3, ?_, ?_⟩
  · unfold bLaw
    refine Eq.trans (seq_ok (setM_ok (M1 := M) (ps := [.int a, .int b]) (call_ok (n := 2) (ds := [.p (.scr ns), .p (.int (k : Int))]) (M1 := M) rfl rfl e1))) ?_
    refine Eq.trans (seq_ok (set_ok (d := .p (.int (7 * (3 + r) + 1))) (M1 := M3) ?_)) ?_
    · refine bin_ok (d1 := .p (.int (7 * (3 + r)))) (d2 := .p (.int 1)) (M1 := M3) ?_ rfl rfl rfl rfl
      refine bin_ok (d1 := .p (.int 7)) (d2 := .p (.int (3 + r))) (M1 := M1) rfl ?_ rfl rfl (mul_l (by decide) (by decide))
      refine bin_ok (d1 := .p (.int 3)) (d2 := .p (.int r)) (M1 := M1) rfl ?_ rfl rfl rfl
      refine call_ok (n := 2) (ds := [.loc M.length, .p (.int most)]) (M1 := M2) (cons_ok (d := .loc M.length) (M1 := M1) rfl (cons_ok (d := .p (.int most)) (M1 := M2) ?_ nil_ok)) rfl e3
      refine call_ok (n := 2) (ds := [.loc M.length, .p (.lst [.int 9, .int (10 ^ 9), .int (10 ^ 28)])]) (M1 := M1) (cons_ok (d := .loc M.length) (M1 := M1) rfl (cons_ok (d := .nw [.int 9, .int (10 ^ 9), .int (10 ^ 28)]) (M1 := M1) ?_ nil_ok)) rfl e2
      refine lst_ok (ds := [.p (.int 9), .p (.int (10 ^ 9)), .p (.int (10 ^ 28))]) (cons_ok (d := .p (.int 9)) (M1 := M1) rfl (cons_ok (d := .p (.int (10 ^ 9))) (M1 := M1) (bin_ok (d1 := .p (.int 10)) (d2 := .p (.int 9)) (M1 := M1) rfl rfl rfl rfl p10) (cons_ok (d := .p (.int (10 ^ 28))) (M1 := M1) (bin_ok (d1 := .p (.int 10)) (d2 := .p (.int 28)) (M1 := M1) rfl rfl rfl rfl p28) nil_ok))) rfl (i7 _ (by decide))
    · have eg := sp_great (m := 7 * (3 + r) + 1) (q := 3 + r) (M := M3) rfl (by omega) hq3
      refine Eq.trans (seq_ok (Eq.trans (if_f (M1 := M3) (bof_ok (bin_ok (d1 := .p (.bl false)) (d2 := .nw (List.replicate 7 (.bl true))) (M1 := M3) rfl (call_ok (n := 1) (ds := [.p (.int (7 * (3 + r) + 1))]) (M1 := M3) rfl rfl eg) rfl rfl ?_))) rfl)) rfl
      kernel_rfl
  · rw [w3.len, w2.len]
    show (M ++ [_]).length = _
    simp
theorem law_k14 (ns : List Int) : ∃ M, F_law [.p (.scr ns)] [] = .ok (.p (.bl true)) M := by
  unfold F_law
  rw [fnB1]
  obtain ⟨N, hN, hN2⟩ : ∃ N : Nat, N = max 3 (min 6 ns.length) ∧ (if (if (ns.length : Int) < 6 then (ns.length : Int) else 6) > 3 then (if (ns.length : Int) < 6 then (ns.length : Int) else 6) else 3) = N := by
    refine ⟨_, rfl, ?_⟩
    split <;> split <;> omega
  obtain ⟨σ', M', e, i⟩ := forL_invN (t := .nm 1) (b := bLaw) (fun n σ M => (∃ x1 x2 x3, σ = [some (.p (.scr ns)), x1, x2, x3]) ∧ M.length = n) (rgs 0 N) 0 [some (.p (.scr ns)), none, none, none] [] ⟨⟨_, _, _, rfl⟩, rfl⟩ (by
    rintro p hp n σ M ⟨⟨x1, x2, x3, rfl⟩, hl⟩
    unfold rgs at hp
    obtain ⟨k, _, rfl⟩ := List.mem_map.mp hp
    obtain ⟨y2, y3, M2, e2, e3⟩ := bLaw_ok (ns := ns) (k := k) (x2 := x2) (x3 := x3) (M := M)
    refine ⟨_, [some (.p (.scr ns)), some (.p (.int (k : Int))), y2, y3], M2, x_nm, ?_, ⟨⟨_, _, _, rfl⟩, by rw [e3, hl]⟩⟩
    rw [Int.zero_add]
    exact e2)
  obtain ⟨⟨x1, x2, x3, rfl⟩, hl⟩ := i
  have hl2 : M'.length = N := by simpa [rgs] using hl
  have es := small_ (M := M') (by omega) (by omega)
  refine ⟨[], ?_⟩
  have eb : b_law (some (.p (.scr ns)) :: List.replicate (4 - 1) none) [] = .ok (.rt (.p (.bl true))) M' := by
    unfold b_law
    refine Eq.trans (seq_ok (Eq.trans (for_ok (ps := rgs 0 N) (M1 := []) (rng_ok (M1 := []) (cons_ok (d := .p (.int (N : Int))) (M1 := []) ?_ nil_ok) (Nat.le_trans (by omega) lim_big))) e)) ?_
    · refine callB_ok (ds := [.p (.int 3), .p (.int (if (ns.length : Int) < 6 then (ns.length : Int) else 6))]) (ps := [.int 3, .int (if (ns.length : Int) < 6 then (ns.length : Int) else 6)]) (cons_ok (d := .p (.int 3)) (M1 := []) rfl (cons_ok (d := .p (.int (if (ns.length : Int) < 6 then (ns.length : Int) else 6))) (M1 := []) ?_ nil_ok)) rfl ?_
      · refine callB_ok (ds := [.p (.int 6), .p (.int ns.length)]) (ps := [.int 6, .int ns.length]) (cons_ok (d := .p (.int 6)) (M1 := []) rfl (cons_ok (d := .p (.int ns.length)) (M1 := []) ?_ nil_ok)) rfl rfl
        exact callB_ok (ds := [.p (.scr ns)]) (ps := [.scr ns]) rfl rfl rfl
      · rw [← hN2]; rfl
    · refine seq_rt (ret_ok (bin_ok (d1 := .p (.bl false)) (d2 := .nw (List.replicate 13 (.bl true))) (M1 := M') rfl (call_ok (n := 0) (ds := []) (M1 := M') rfl rfl es) rfl rfl ?_))
      kernel_rfl
  rw [eb]
  rfl
end Ev

theorem PySem.Challenge.cw_stampribbon_k14_known_ribbons_by_hand_holds : PySem.Challenge.rw_stampribbon_k14_known_ribbons_by_hand.Holds := by
  exact Ev.holds_of fun ns _ => Ev.law_k14 ns
