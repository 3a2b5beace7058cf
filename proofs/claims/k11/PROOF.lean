import PyProof.Rows.All
import Wide.All
import OpenK.AllK
import Wide.FinOn
import HandS.ForMost
import HandS.Walk
import HandS.Codes
import HandS.IsInst
import HandS.More
import HandS.Wide
import HandS.Flow
import HandS.Defaults
import HandS.Conv
import HandS.Steps
import HandS.Head0
import HandS.Head1
import HandS.Head2
import HandS.HeadEnd
import HandS.HeadHook4
import KE.GoesZip
import HandS.Zip
import PySem.Challenge.RW_gluebridge_k11_text_recipes
set_option Elab.async false
set_option linter.all false
set_option maxRecDepth 100000
set_option maxHeartbeats 4000000
namespace G
open PySem PySem.Spec L2
open C8 (tCut pss_cut)

/-! ### frames: what stood is as it was, but for the objects in S -/
structure Fr (S : List Addr) (H H' : Hp) : Prop where
  get : ∀ {a o}, H a = some o → a ∉ S → H' a = some o
  tup : ∀ {a xs}, H a = some (.tup xs) → H' a = some (.tup xs)
  dom : ∀ {a}, H' a = none → H a = none

theorem Fr.refl (S : List Addr) (H : Hp) : Fr S H H := ⟨fun h _ => h, fun h => h, fun h => h⟩
theorem Fr.new {S : List Addr} {H : Hp} {p : Addr} {o : HO} (h : H p = none) : Fr S H (upd H p o) where
  get := fun {a u} e _ => by rw [upd_ne (ne_of_none e h)]; exact e
  tup := fun {a u} e => by rw [upd_ne (ne_of_none e h)]; exact e
  dom := fun {a} e => by
    by_cases q : a = p
    · rw [q]; exact h
    · rw [upd_ne q] at e; exact e
/-- not a tuple -/
def Nt : Option HO → Prop
  | some (.tup _) => False
  | some _ => True
  | none => False
theorem Fr.chg {H : Hp} {p : Addr} {o : HO} (h : Nt (H p)) : Fr [p] H (upd H p o) where
  get := fun {a u} e n => by
    have : a ≠ p := fun q => n (by rw [q]; exact List.mem_cons_self ..)
    rw [upd_ne this]; exact e
  tup := fun {a u} e => by
    have : a ≠ p := fun q => by subst q; rw [e] at h; exact h
    rw [upd_ne this]; exact e
  dom := fun {a} e => by
    by_cases q : a = p
    · subst q; rw [upd_same] at e; cases e
    · rw [upd_ne q] at e; exact e
/-- one more step: what changes is in S or is younger -/
theorem Fr.step {S S' : List Addr} {H0 H H' : Hp} (f : Fr S' H H') (g : Fr S H0 H) (h : ∀ l, l ∈ S' → l ∈ S ∨ H0 l = none) : Fr S H0 H' where
  get := fun {a o} e n => f.get (g.get e n) fun q => by
    rcases h a q with z | z
    · exact n z
    · rw [e] at z; cases z
  tup := fun {a xs} e => f.tup (g.tup e)
  dom := fun {a} e => g.dom (f.dom e)
theorem Fr.step0 {S : List Addr} {H0 H H' : Hp} (f : Fr [] H H') (g : Fr S H0 H) : Fr S H0 H' := f.step g fun _ q => absurd q (List.not_mem_nil)
theorem Fr.stepS {S : List Addr} {H0 H H' : Hp} (f : Fr S H H') (g : Fr S H0 H) : Fr S H0 H' := f.step g fun _ q => .inl q
theorem Fr.step1 {S : List Addr} {H0 H H' : Hp} {l : Addr} (f : Fr [l] H H') (g : Fr S H0 H) (h : l ∈ S ∨ H0 l = none) : Fr S H0 H' := f.step g fun a q => by
  rw [List.mem_singleton.mp q]; exact h
theorem Fr.stepL {S : List Addr} {H0 H H' : Hp} {l : Addr} (f : Fr [l] H H') (g : Fr S H0 H) (h : l ∈ S) : Fr S H0 H' := f.step1 g (.inl h)
theorem Fr.stepN {S : List Addr} {H0 H H' : Hp} {l : Addr} (f : Fr [l] H H') (g : Fr S H0 H) (h : H0 l = none) : Fr S H0 H' := f.step1 g (.inr h)
theorem Fr.mono {S S' : List Addr} {H H' : Hp} (f : Fr S H H') (h : ∀ a, a ∈ S → a ∈ S') : Fr S' H H' := ⟨fun e n => f.get e fun q => n (h _ q), f.tup, f.dom⟩
theorem Fr.any {S : List Addr} {H H' : Hp} (f : Fr [] H H') : Fr S H H' := f.mono fun _ q => absurd q (List.not_mem_nil)
theorem Fr.sql {K : PySem.W.Frag} {S : List Addr} {H H' : Hp} {a : Addr} {xs : List V} (f : Fr S H H') (h : SqL K H a xs) (n : a ∉ S) : SqL K H' a xs := by
  rcases h with (h | ⟨o, h⟩) | h
  · exact .inl (.inl (f.get h n))
  · exact .inl (.inr ⟨o, f.get h n⟩)
  · exact .inr h
theorem Fr.sqt {K : PySem.W.Frag} {S : List Addr} {H H' : Hp} {a : Addr} {xs : List V} (f : Fr S H H') (h : SqT K H a xs) (n : a ∉ S) : SqT K H' a xs := by
  rcases h with (h | ⟨o, h⟩) | h
  · exact .inl (.inl (f.get h n))
  · exact .inl (.inr ⟨o, f.get h n⟩)
  · exact .inr h

/-! ### data that never changes -/
mutual
inductive Im (H : Hp) : V → PyData → Prop
  | non : Im H .non .none
  | bl (b : Bool) : Im H (.bl b) (.bool b)
  | int (i : Int) : Im H (.int i) (.int i)
  | str (x : Str) : Im H (.str x) (.str x)
  | tup {a : Addr} {xs : List V} {ds : List PyData} : H a = some (.tup xs) → ImAll H xs ds → Im H (.ref a) (.tuple ds)
inductive ImAll (H : Hp) : List V → List PyData → Prop
  | nil : ImAll H [] []
  | cons {v : V} {vs : List V} {d : PyData} {ds : List PyData} : Im H v d → ImAll H vs ds → ImAll H (v :: vs) (d :: ds)
end
mutual
theorem Im.fr {S : List Addr} {H H' : Hp} (f : Fr S H H') : ∀ (d : PyData) (v : V), Im H v d → Im H' v d
  | .none, _, h => by cases h; exact .non
  | .bool b, _, h => by cases h; exact .bl b
  | .int i, _, h => by cases h; exact .int i
  | .str x, _, h => by cases h; exact .str x
  | .tuple ds, _, h => by
    cases h with
    | tup h1 h2 => exact .tup (f.tup h1) (ImAll.fr f ds _ h2)
  | .list _, _, h => by cases h
  | .dict _, _, h => by cases h
theorem ImAll.fr {S : List Addr} {H H' : Hp} (f : Fr S H H') : ∀ (ds : List PyData) (vs : List V), ImAll H vs ds → ImAll H' vs ds
  | [], _, h => by cases h; exact .nil
  | d :: ds, _, h => by
    cases h with
    | cons h1 h2 => exact .cons (Im.fr f d _ h1) (ImAll.fr f ds _ h2)
end
mutual
theorem Im.dp {K : PySem.W.Frag} {H : Hp} : ∀ (d : PyData) (v : V), Im H v d → Dp K H v d
  | .none, _, h => by cases h; exact .non
  | .bool b, _, h => by cases h; exact .bl b
  | .int i, _, h => by cases h; exact .int i
  | .str x, _, h => by cases h; exact .str x
  | .tuple ds, _, h => by
    cases h with
    | tup h1 h2 => exact .tup (.of h1) (ImAll.dp ds _ h2)
  | .list _, _, h => by cases h
  | .dict _, _, h => by cases h
theorem ImAll.dp {K : PySem.W.Frag} {H : Hp} : ∀ (ds : List PyData) (vs : List V), ImAll H vs ds → DpAll K H vs ds
  | [], _, h => by cases h; exact .nil
  | d :: ds, _, h => by
    cases h with
    | cons h1 h2 => exact .cons (Im.dp d _ h1) (ImAll.dp ds _ h2)
end
theorem ImAll.length {H : Hp} : ∀ {ds : List PyData} {vs : List V}, ImAll H vs ds → vs.length = ds.length
  | [], _, h => by cases h; rfl
  | d :: ds, _, h => by
    cases h with
    | cons h1 h2 => simp [ImAll.length h2]
theorem ImAll.get {H : Hp} : ∀ {ds : List PyData} {vs : List V} {i : Nat} {v : V}, ImAll H vs ds → vs[i]? = some v → ∃ d, ds[i]? = some d ∧ Im H v d
  | [], _, i, v, h, e => by cases h; simp at e
  | d :: ds, _, 0, v, h, e => by
    cases h with
    | cons h1 h2 => simp at e; subst e; exact ⟨d, rfl, h1⟩
  | d :: ds, _, i + 1, v, h, e => by
    cases h with
    | cons h1 h2 => simpa using ImAll.get h2 (by simpa using e)
theorem ImAll.app {H : Hp} : ∀ {ds es : List PyData} {vs us : List V}, ImAll H vs ds → ImAll H us es → ImAll H (vs ++ us) (ds ++ es)
  | [], _, _, _, h, g => by cases h; exact g
  | d :: ds, _, _, _, h, g => by
    cases h with
    | cons h1 h2 => exact .cons h1 (ImAll.app h2 g)
/-- a list at l of such data -/
def Ls (H : Hp) (l : Addr) (ds : List PyData) : Prop := ∃ vs, H l = some (.lst vs) ∧ ImAll H vs ds
theorem Ls.fr {S : List Addr} {H H' : Hp} {l : Addr} {ds : List PyData} (f : Fr S H H') (h : Ls H l ds) (n : l ∉ S) : Ls H' l ds := by
  obtain ⟨vs, h1, h2⟩ := h
  exact ⟨vs, f.get h1 n, ImAll.fr f _ _ h2⟩

/-! ### promises by arity -/
def sp1 (f : V → Hp → VK → XK → Prop) : Sp := fun vs H Q E => ∃ a, vs = [a] ∧ f a H Q E
def sp2 (f : V → V → Hp → VK → XK → Prop) : Sp := fun vs H Q E => ∃ a b, vs = [a, b] ∧ f a b H Q E
def sp3 (f : V → V → V → Hp → VK → XK → Prop) : Sp := fun vs H Q E => ∃ a b c, vs = [a, b, c] ∧ f a b c H Q E
def sp4 (f : V → V → V → V → Hp → VK → XK → Prop) : Sp := fun vs H Q E => ∃ a b c d, vs = [a, b, c, d] ∧ f a b c d H Q E
theorem sp1_len {f : V → Hp → VK → XK → Prop} {vs H Q E} (h : sp1 f vs H Q E) : vs.length = 1 := by obtain ⟨_, rfl, _⟩ := h; rfl
theorem sp2_len {f : V → V → Hp → VK → XK → Prop} {vs H Q E} (h : sp2 f vs H Q E) : vs.length = 2 := by obtain ⟨_, _, rfl, _⟩ := h; rfl
theorem sp3_len {f : V → V → V → Hp → VK → XK → Prop} {vs H Q E} (h : sp3 f vs H Q E) : vs.length = 3 := by obtain ⟨_, _, _, rfl, _⟩ := h; rfl
theorem sp4_len {f : V → V → V → V → Hp → VK → XK → Prop} {vs H Q E} (h : sp4 f vs H Q E) : vs.length = 4 := by obtain ⟨_, _, _, _, rfl, _⟩ := h; rfl

/-! ### a def of the text, a callee -/
def DefAt (K : PySem.W.Frag) (mg : Str → Option Value) (x : Str) (st : Stmt) : Prop := ∃ f fd, FunD K x x (defArgs st) (defBody st) (defScope st) [] [] f fd ∧ mg x = some (.ref f)
def IsF (K : PySem.W.Frag) (f : Addr) (fd : FuncData) : Prop := ∃ oc od osl, K.lookup f = some ⟨oc, od, .func fd, osl⟩
structure Cal (P : Program) (w : World) (K : PySem.W.Frag) (mg : Str → Option Value) (base : Heap) (CX : CXT) (k : Nat) (x : Str) (ps : List Str) (sp : Sp) : Prop where
  ex : ∃ f fd, FnOk P w K mg base CX k f fd ps sp ∧ mg x = some (.ref f) ∧ PySem.W.keepIn K (.ref f) = true ∧ Binds K fd ps [] ∧ IsF K f fd
theorem Cal.mono {P : Program} {w : World} {K : PySem.W.Frag} {mg : Str → Option Value} {base : Heap} {CX : CXT} {j k : Nat} {x : Str} {ps : List Str} {sp : Sp} (C : Cal P w K mg base CX j x ps sp) (h : j ≤ k) : Cal P w K mg base CX k x ps sp := by
  obtain ⟨f, fd, F, r⟩ := C.ex
  exact ⟨f, fd, F.mono h, r⟩
theorem Cal.imp {P : Program} {w : World} {K : PySem.W.Frag} {mg : Str → Option Value} {base : Heap} {CX : CXT} {k : Nat} {x : Str} {ps : List Str} {sp sp' : Sp} (C : Cal P w K mg base CX k x ps sp) (h : ∀ vs H Q E, sp' vs H Q E → sp vs H Q E) : Cal P w K mg base CX k x ps sp' := by
  obtain ⟨f, fd, F, r⟩ := C.ex
  exact ⟨f, fd, F.imp h, r⟩
section
variable {X : Cx} {CX : CXT} {k : Nat} {x : Str} {ps : List Str} {sp : Sp} {E : XK} {p pos : Pos} {e : Expr} {es : List Expr} {t : TA}
theorem pe_callC (C : Cal X.prog X.w X.K X.mg X.base CX k x ps sp) (hr : Room k X.A) (hg : Gl X x) (hx : Passes CX X E) (ha : PA X (e :: es) t)
    (hdb : (x == ("__debug__" : Str)) = false := by decide) (he : starEach (e :: es) X.env = (false, eval e X.env) :: starEach es X.env := by rfl) (hpl : (backTo pos (starEach es X.env)).any (·.1) = false := by rfl) :
    PE X (.Call (.Name x p) (e :: es) [] pos) (tCall sp [] E t) := by
  obtain ⟨f, fd, F, g, kp, b, _⟩ := C.ex
  exact pe_call F hr hg g kp b .nil hx ha hdb he hpl
theorem pe_callC0 (C : Cal X.prog X.w X.K X.mg X.base CX k x ps sp) (hr : Room k X.A) (hg : Gl X x) (hx : Passes CX X E) (hdb : (x == ("__debug__" : Str)) = false := by decide) : PE X (.Call (.Name x p) [] [] pos) (tCall sp [] E tNil) := by
  obtain ⟨f, fd, F, g, kp, b, _⟩ := C.ex
  exact pe_call0 F hr hg g kp b .nil hx hdb
end
theorem cx_K {CX : CXT} {P : Program} {w : World} {K : PySem.W.Frag} {mg : Str → Option Value} {base : Heap} {N : List Str} {qual : Str} {scope : Scope} {f : Addr} {cd : Value} {A : Around} {outer : List Env} {s : Shared} {H : Hp} {E : XK} : (cxOf CX P w K mg base N qual scope f cd A outer s H E).nox.K = K := rfl
theorem cx_K' {CX : CXT} {P : Program} {w : World} {K : PySem.W.Frag} {mg : Str → Option Value} {base : Heap} {N : List Str} {qual : Str} {scope : Scope} {f : Addr} {cd : Value} {A : Around} {outer : List Env} {s : Shared} {H : Hp} {E : XK} : (cxOf CX P w K mg base N qual scope f cd A outer s H E).K = K := rfl
theorem isF_of {K : PySem.W.Frag} {x q : Str} {ar : Arguments} {bd : List Stmt} {sc : Scope} {dv : List V} {kw : List (Str × V)} {f : Addr} {fd : FuncData} (F : FunD K x q ar bd sc dv kw f fd) : IsF K f fd := by
  obtain ⟨oc, od, dV, kV, doc, pm, an, cdv, ct, osl, rfl, lk, _⟩ := F.ex
  exact ⟨oc, od, osl, lk⟩
theorem cal_mk {P : Program} {w : World} {K : PySem.W.Frag} {mg : Str → Option Value} {base : Heap} {CX : CXT} {k : Nat} {x : Str} {st : Stmt} {N ps : List Str} {sp : Sp} (D : DefAt K mg x st) (S : FnScope N ps (defScope st)) (len : ∀ vs H Q E, sp vs H Q E → vs.length = ps.length)
    (hb : ∀ (kV doc pm : Value) (an : Option Addr) (cdv ct : Value) (us : List Value), us.length = ps.length → bindArgs (PySem.W.fnOf x x (defArgs st) (defBody st) (defScope st) .none kV doc pm an cdv ct) ⟨us, []⟩ = pure (ps.zip us))
    (body : ∀ (f : Addr) (cdv : Value) (A : Around) (outer : List Env) (s : Shared) (H : Hp) (vs : List V) (Q : VK) (E : XK), Room k (A.deeper (PyProof.Rows.envOfC x (defScope st) s.heap.objs.size f cdv)) → sp vs H Q E →
      ∃ t, PSs (cxOf CX P w K mg base N x (defScope st) f cdv A outer s H E) (defBody st) t ∧ t ⟨fun _ H' => Q .non H', Q, fun _ _ => False, fun _ _ => False⟩ (start N vs) H) : Cal P w K mg base CX (k + 1) x ps sp := by
  obtain ⟨f, fd, F, g⟩ := D
  exact ⟨f, fd, F.ok S len fun cdv A outer s H vs Q E hr h => body f cdv A outer s H vs Q E hr h, g, F.kp, F.bindsN hb, isF_of F⟩
/-! ### operators of any kind of value -/
section
variable {X : Cx}
def rAddI : R2 := rI0 fun i j => .int (i + j)
def rAddS : R2 := fun x y H Q => ∃ i j, x = .str i ∧ y = .str j ∧ i.length + j.length ≤ sizeLine ∧ Q (.str (i ++ j)) H
def rAddA (K : PySem.W.Frag) : R2 := fun x y H Q => rAddI x y H Q ∨ (rAddS x y H Q ∨ (rCat x y H Q ∨ rCatT K x y H Q))
theorem op_addA : OpR X (binaryOp .Add) (rAddA X.K) := op_add.or (op_add_str.or (op_cat.or op_catT))
def rEqI (f : Bool → Bool) : R2 := rI0 fun i j => .bl (f (decide (i = j)))
def rEqS (f : Bool → Bool) : R2 := fun x y H Q => ∃ i j, x = .str i ∧ y = .str j ∧ Q (.bl (f (decide (i = j)))) H
theorem op_eqI : OpR X (compareOp .Eq) (rEqI id) := fun pins s σ H x y v u Q I rx ry h => by
  obtain ⟨i, j, rfl, rfl, q⟩ := h
  exact op_eq pins s σ H _ _ v u Q I rx ry ⟨rfl, by rw [show decide (V.int i = V.int j) = decide (i = j) by simp]; exact q⟩
theorem op_neI : OpR X (compareOp .NotEq) (rEqI not) := fun pins s σ H x y v u Q I rx ry h => by
  obtain ⟨i, j, rfl, rfl, q⟩ := h
  exact op_ne pins s σ H _ _ v u Q I rx ry ⟨rfl, by rw [show decide (V.int i = V.int j) = decide (i = j) by simp]; exact q⟩
theorem op_eqS : OpR X (compareOp .Eq) (rEqS id) := fun pins s σ H x y v u Q I rx ry h => by
  obtain ⟨i, j, rfl, rfl, q⟩ := h
  exact op_eq pins s σ H _ _ v u Q I rx ry ⟨rfl, by rw [show decide (V.str i = V.str j) = decide (i = j) by simp]; exact q⟩
theorem op_neS : OpR X (compareOp .NotEq) (rEqS not) := fun pins s σ H x y v u Q I rx ry h => by
  obtain ⟨i, j, rfl, rfl, q⟩ := h
  exact op_ne pins s σ H _ _ v u Q I rx ry ⟨rfl, by rw [show decide (V.str i = V.str j) = decide (i = j) by simp]; exact q⟩
def rEqA (K : PySem.W.Frag) : R2 := fun x y H Q => rEqI id x y H Q ∨ (rEqS id x y H Q ∨ (rEqD K x y H Q ∨ rEq x y H Q))
def rNeA (K : PySem.W.Frag) : R2 := fun x y H Q => rEqI not x y H Q ∨ (rEqS not x y H Q ∨ (rNeD K x y H Q ∨ rNe x y H Q))
theorem op_eqA (hu : X.A.units + 64 < cLine) : OpR X (compareOp .Eq) (rEqA X.K) := op_eqI.or (op_eqS.or ((op_eqD hu).or op_eq))
theorem op_neA (hu : X.A.units + 64 < cLine) : OpR X (compareOp .NotEq) (rNeA X.K) := op_neI.or (op_neS.or ((op_neD hu).or op_ne))
/-- x in a list or tuple of data, in a text -/
def rInS (f : Bool → Bool) : R2 := fun x y H Q => ∃ i j, x = .str i ∧ y = .str j ∧ Q (.bl (f (!(Builtin.Str.occurrences j i 0 j.length 1).isEmpty))) H
def rInC (f : Bool → Bool) : R2 := fun x y H Q => ∃ (c : Nat) (z : Str), x = .str ⟨#[c]⟩ ∧ y = .str z ∧ Q (.bl (f (decide (c ∈ z.cps.toList)))) H
def rInA (K : PySem.W.Frag) : R2 := fun x y H Q => rIn K false x y H Q ∨ (rInS id x y H Q ∨ rInC id x y H Q)
def rNiA (K : PySem.W.Frag) : R2 := fun x y H Q => rIn K true x y H Q ∨ (rInS not x y H Q ∨ rInC not x y H Q)
theorem op_inA : OpR X (compareOp .In) (rInA X.K) := op_in_seq.or (op_in_str.or op_in_sign)
theorem op_niA : OpR X (compareOp .NotIn) (rNiA X.K) := op_notIn_seq.or (op_notin_str.or op_notIn_sign)
theorem r_inC {K : PySem.W.Frag} {H : Hp} {Q : VK} {c : Nat} {z : Str} (q : Q (.bl (decide (c ∈ z.cps.toList))) H) : rInA K (.str ⟨#[c]⟩) (.str z) H Q := .inr (.inr ⟨c, z, rfl, rfl, q⟩)
theorem r_niC {K : PySem.W.Frag} {H : Hp} {Q : VK} {c : Nat} {z : Str} (q : Q (.bl (!decide (c ∈ z.cps.toList))) H) : rNiA K (.str ⟨#[c]⟩) (.str z) H Q := .inr (.inr ⟨c, z, rfl, rfl, q⟩)
/-- slices of a list, a tuple, a text -/
def rSlA (K : PySem.W.Frag) : V → Option Int → Option Int → Hp → VK → Prop := fun x l u H Q => rSlL K x l u H Q ∨ (rSlT K x l u H Q ∨ C8.rSlX x l u H Q)
theorem sl_A : SlR X (rSlA X.K) := sl_list.or (sl_tup.or C8.sl_txt)
section
variable {K : PySem.W.Frag} {σ : L2.St} {H : Hp} {Q : VK} {te : TE} {tl th : TO} {r : V → Option Int → Option Int → Hp → VK → Prop} {lo hi : Option Int} {p : Addr} {xs : List V} {i : Int} {z : Str}
theorem r_sl (h : te σ H fun x H1 => tl σ H1 fun l H2 => th σ H2 fun u H3 => r x l u H3 Q) : tSl r te tl th σ H Q := h
theorem r_noPart {R : Option Int → Hp → Prop} (h : R none H) : tNoPart σ H R := h
theorem r_slL (h : SqL K H p xs) (q : ∀ p' H', H p' = none → Fr [] H H' → H' p' = some (.lst (cutV xs lo hi)) → Q (.ref p') H') : rSlA K (.ref p) lo hi H Q := .inl ⟨p, xs, rfl, h, fun p' hp => q p' _ hp (.new hp) upd_same⟩
theorem r_slT (h : SqT K H p xs) (nf : ¬ (HT.sIx xs.length 0 lo = 0 ∧ HT.sIx xs.length xs.length hi = xs.length)) (q : ∀ p' H', H p' = none → Fr [] H H' → H' p' = some (.tup (cutV xs lo hi)) → Q (.ref p') H') : rSlA K (.ref p) lo hi H Q :=
  .inr (.inl ⟨p, xs, rfl, h, nf, fun p' hp => q p' _ hp (.new hp) upd_same⟩)
theorem r_slS (hz : z.length ≤ 16777216) (q : Q (.str (Txt.slice z lo hi)) H) : rSlA K (.str z) lo hi H Q := .inr (.inr ⟨z, rfl, by rw [sizeLine_eq]; exact hz, q⟩)
theorem cutV_drop {xs : List V} {k : Nat} (h : k ≤ xs.length) : cutV xs (some (k : Int)) none = xs.drop k := by
  unfold cutV
  rw [HT.sIx_nat, HT.sIx_none, Nat.min_eq_left h]
  exact List.take_of_length_le (by rw [List.length_drop]; exact Nat.le_refl _)
theorem cutV_take {xs : List V} {k : Nat} (h : k ≤ xs.length) : cutV xs none (some (k : Int)) = xs.take k := by
  unfold cutV
  rw [HT.sIx_nat, HT.sIx_none, Nat.min_eq_left h, List.drop_zero]
  rfl
end
end


/-! ### more rules -/
section
variable {X : Cx}
def rMulS : R2 := fun x y H Q => ∃ (z : Str) (n : Int), x = .str z ∧ y = .int n ∧ MulOk z n ∧ Q (.str (Txt.mul z n)) H
theorem op_mulS : OpR X (binaryOp .Mult) rMulS := by
  intro pins s σ H x y v u Q I rx ry h
  obtain ⟨z, n, rfl, rfl, ok, q⟩ := h
  obtain ⟨t, rfl⟩ := rx
  obtain ⟨t', rfl⟩ := ry
  exact SB.mul ok fun t2 k => ⟨.str (Txt.mul z n), H, I.tok _, ⟨_, rfl⟩, q⟩
def rMulA : R2 := fun x y H Q => rI CMul (fun i j => .int (i * j)) x y H Q ∨ (rRep x y H Q ∨ rMulS x y H Q)
theorem op_mulA : OpR X (binaryOp .Mult) rMulA := op_mul.or (op_rep.or op_mulS)
theorem op_fdivA : OpR X (binaryOp .FloorDiv) (rI CDiv fun i j => .int (i / j)) := op_fdiv
theorem op_modA : OpR X (binaryOp .Mod) (rI (fun _ j => 0 < j) fun i j => .int (i % j)) := op_mod
theorem op_ltA : OpR X (compareOp .Lt) (rI0 fun i j => .bl (decide (i < j))) := op_lt
theorem op_leA : OpR X (compareOp .LtE) (rI0 fun i j => .bl (decide (i ≤ j))) := op_le
theorem op_gtA : OpR X (compareOp .Gt) (rI0 fun i j => .bl (decide (j < i))) := op_gt
theorem op_geA : OpR X (compareOp .GtE) (rI0 fun i j => .bl (decide (j ≤ i))) := op_ge
theorem pe_globC {x : Str} {i : Int} {pos : Pos} (hg : Gl X x) (h : ∃ t, X.mg x = some (.int i t)) (hd : (x == ("__debug__" : Str)) = false := by decide) : PE X (.Name x pos) (tC (.int i)) := by
  obtain ⟨t, e⟩ := h
  exact pe_glob hg e ⟨t, rfl⟩ hd
theorem pe_globS {x z : Str} {pos : Pos} (hg : Gl X x) (h : ∃ t, X.mg x = some (.str z t)) (hd : (x == ("__debug__" : Str)) = false := by decide) : PE X (.Name x pos) (tC (.str z)) := by
  obtain ⟨t, e⟩ := h
  exact pe_glob hg e ⟨t, rfl⟩ hd
/-- x is True, x is False -/
def rIsBo (f : Bool → Bool) : R2 := fun x y H Q => ∃ b, y = .bl b ∧ (x = .non ∨ ∃ k, x = .bl k) ∧ Q (.bl (f (decide (x = .bl b)))) H
theorem op_isB : OpR X (compareOp .Is) (rIsBo id) := by
  intro pins s σ H x y v u Q I rx ry h
  obtain ⟨b, rfl, hx, q⟩ := h
  cases (show u = Value.bool b from ry)
  rcases hx with rfl | ⟨a, rfl⟩
  · cases (show v = Value.none from rx)
    exact wpAny_is_other rfl (fun z => by cases z) ⟨.bl false, H, I, rfl, q⟩
  · cases (show v = Value.bool a from rx)
    by_cases e : a = b
    · subst e
      exact wpAny_is_self rfl ⟨.bl true, H, I, rfl, by simpa using q⟩
    · exact wpAny_is_other rfl (fun z => e (Value.bool.inj z)) ⟨.bl false, H, I, rfl, by simpa [e] using q⟩
theorem hu64 {A : Around} {k : Nat} (hr : Room k A) : A.units + 64 < cLine := by have := hr.un; omega
end
theorem bt_len : bootBuiltins "len" = some (.builtin "len") := by decide +kernel
theorem bt_abs : bootBuiltins "abs" = some (.builtin "abs") := by decide +kernel
theorem bt_min : bootBuiltins "min" = some (.builtin "min") := by decide +kernel
theorem bt_max : bootBuiltins "max" = some (.builtin "max") := by decide +kernel
theorem bt_sum : bootBuiltins "sum" = some (.builtin "sum") := by decide +kernel
theorem bt_sorted : bootBuiltins "sorted" = some (.builtin "sorted") := by decide +kernel
theorem bt_isinstance : bootBuiltins "isinstance" = some (.builtin "isinstance") := by decide +kernel
theorem bt_int : bootBuiltins "int" = some (.type "int") := by decide +kernel
theorem bt_list : bootBuiltins "list" = some (.type "list") := by decide +kernel
theorem bt_tuple : bootBuiltins "tuple" = some (.type "tuple") := by decide +kernel
theorem bt_str : bootBuiltins "str" = some (.type "str") := by decide +kernel
theorem bt_bool : bootBuiltins "bool" = some (.type "bool") := by decide +kernel
theorem bt_dict : bootBuiltins "dict" = some (.type "dict") := by decide +kernel
/-! ### readings with a name at each head -/
def kLst (xs : List V) (H : Hp) (Q : VK) : Prop := xs.length ≤ sizeLine ∧ ∀ p, H p = none → Q (.ref p) (upd H p (.lst xs))
def kTup (xs : List V) (H : Hp) (Q : VK) : Prop := xs.length ≤ sizeLine ∧ ∀ p, H p = none → Q (.ref p) (upd H p (.tup xs))
def tLstG (t : TA) : TE := fun σ H Q => t σ H fun xs H1 => kLst xs H1 Q
def tTupG (t : TA) : TE := fun σ H Q => t σ H fun xs H1 => kTup xs H1 Q
def kB (P : Bool → Hp → Prop) (x : V) (H : Hp) : Prop := ∃ k, x = .bl k ∧ P k H
def tTestG (t : TE) : TT := fun σ H P => t σ H fun x H1 => kB P x H1
def tTruG (K : PySem.W.Frag) (t : TE) : TT := fun σ H P => t σ H fun x H1 => ∃ k, TruV K x H1 k ∧ P k H1
def kTru (K : PySem.W.Frag) (P : Bool → Hp → Prop) (x : V) (H : Hp) : Prop := ∃ k, TruV K x H k ∧ P k H
def kFld (K : PySem.W.Frag) (f : Str) (x : V) (H : Hp) (Q : VK) : Prop := ∃ a C dx fs v, x = .ref a ∧ H a = some (.ins C dx fs) ∧ Cls K C ∧ NoAttr K C f ∧ fs.lookup f = some v ∧ Q v H
def tFldG (K : PySem.W.Frag) (t : TE) (f : Str) : TE := fun σ H Q => t σ H fun x H1 => kFld K f x H1 Q
def kCh (r : R2) (tc : TE) (σ : L2.St) (y z : V) (H : Hp) (Q : VK) : Prop := ∃ k, z = .bl k ∧ if k = true then tc σ H fun z' H4 => r y z' H4 Q else Q (.bl false) H
def kPart (Q : Option Int → Hp → Prop) (x : V) (H : Hp) : Prop := ∃ i, x = .int i ∧ Q (some i) H
def kSetF (K : PySem.W.Frag) (f : Str) (nx : L2.St → Hp → Prop) (σ : L2.St) (y x : V) (H : Hp) : Prop := ∃ a C dx fs, x = .ref a ∧ H a = some (.ins C dx fs) ∧ Cls K C ∧ NoAttr K C f ∧ fs.length < 1000 ∧ nx σ (upd H a (.ins C dx (putF f y fs)))
def sFldG (K : PySem.W.Frag) (ta tv : TE) (f : Str) : TS := fun D σ H => tv σ H fun y H1 => ta σ H1 fun x H2 => kSetF K f D.nx σ y x H2
theorem r_part {te : TE} {σ : L2.St} {H : Hp} {R : Option Int → Hp → Prop} (h : te σ H fun x H1 => kPart R x H1) : tPart te σ H R := h
theorem r_kPart {i : Int} {H : Hp} {R : Option Int → Hp → Prop} (h : R (some i) H) : kPart R (.int i) H := ⟨i, rfl, h⟩
def kMeth (C : Addr) (m : Str) (sp : Sp) (E : XK) (t : TA) (σ : L2.St) (Q : VK) (x : V) (H : Hp) : Prop := ∃ a dx fs, x = .ref a ∧ H a = some (.ins C dx fs) ∧ fs.lookup m = none ∧ t σ H fun vs H2 => sp (x :: vs) H2 Q E
def tMethG (C : Addr) (m : Str) (sp : Sp) (E : XK) (ta : TE) (t : TA) : TE := fun σ H Q => ta σ H fun x H1 => kMeth C m sp E t σ Q x H1
def kMake (C : Addr) (sp : Sp) (E : XK) (vs : List V) (H : Hp) (Q : VK) : Prop := ∀ x dx, H x = none → H dx = none → dx ≠ x → sp (.ref x :: vs) (upd (upd H dx (.own x)) x (.ins C dx [])) (fun v H2 => v = .non ∧ Q (.ref x) H2) E
def tMakeG (C : Addr) (sp : Sp) (E : XK) (t : TA) : TE := fun σ H Q => t σ H fun vs H1 => kMake C sp E vs H1 Q
def kTy (K : PySem.W.Frag) (T : String) (P : Prop) (x : V) (H : Hp) : Prop := tyV K T x H ∧ P
def tBMG (K : PySem.W.Frag) (T : String) (r : V → List V → Hp → VK → Prop) (to : TE) (t : TA) : TE := fun σ H Q => to σ H fun x H1 => kTy K T (t σ H1 fun xs H2 => r x xs H2 Q) x H1
def tBMG0 (K : PySem.W.Frag) (T : String) (r : V → List V → Hp → VK → Prop) (to : TE) : TE := fun σ H Q => to σ H fun x H1 => kTy K T (r x [] H1 Q) x H1
def kRng (R : It → Hp → Prop) (lo hi : Int) (H : Hp) : Prop := (-(2 ^ 62) ≤ lo ∧ lo < 2 ^ 62 ∧ -(2 ^ 62) ≤ hi ∧ hi < 2 ^ 62) ∧ R (Itr lo (hi - lo).toNat) H
section
variable {X : Cx} {pos : Pos} {e o a b c : Expr} {es : List Expr} {t tl : TA} {te ta tb tc to : TE}
theorem pe_lstG (h : PA X es t) : PE X (.List es pos) (tLstG t) := pe_lst h
theorem pe_tupG {x1} (h : PA X es t) : PE X (.Tuple es x1 pos) (tTupG t) := pe_tup h
theorem pt_cmpG {op : CmpOp} {r : R2} (ho : OpR X (compareOp op) r) (ha : PE X a ta) (hb : PE X b tb) (hm : behindInMarks op b = false) : PT X (.Compare a [op] [b] pos) (tTestG (tOp r ta tb)) := pt_cmpR ho ha hb hm
theorem pt_valG (h : PE X e te) (he : ∀ whole, isTrue e X.env whole = (do let v ← whole; standAt e.pos; holding [v] (truthy v)) := by intro _; rfl) : PT X e (tTestG te) := pt_val h he
theorem pt_truG (h : PE X e te) (he : ∀ whole, isTrue e X.env whole = (do let v ← whole; standAt e.pos; holding [v] (truthy v)) := by intro _; rfl) : PT X e (tTruG X.K te) := pt_truth h he
theorem pe_fldG {f : Str} (he : PE X e ta) (hb : attributeBase e f X.env (eval e X.env) = eval e X.env) : PE X (.Attribute e f pos) (tFldG X.K ta f) := pe_fld he hb
theorem ps_fldG {f : Str} {pos' : Pos} {tv : TE} (ha : PE X o ta) (hv : PE X e tv) (hs : swapsWith e (some (.Attribute o f pos')) pos.line X.env = pure false) : PS X (.Assign [.Attribute o f pos'] e pos) (sFldG X.K ta tv f) := ps_fld ha hv hs
end
section
variable {X : Cx} {o e : Expr} {es : List Expr} {to : TE} {t : TA} {name : Str} {apos cpos : Pos} {T id : String} {r : V → List V → Hp → VK → Prop}
theorem pe_bm0G (pa : PlainAttrs T) (slot : Slot T name id) (hty : typeOf (.builtin id) = pure (.type "method_descriptor")) (hm : MtR X id r) (ho : PE X o to)
    (hbase : attributeBase o name X.env (eval o X.env) = eval o X.env := by rfl) (hline : (apos.endLine == cpos.line) = true := by rfl) : PE X (.Call (.Attribute o name apos) [] [] cpos) (tBMG0 X.K T r to) := pe_bm0 pa slot hty hm ho hbase hline
theorem pe_bmG (pa : PlainAttrs T) (slot : Slot T name id) (hty : typeOf (.builtin id) = pure (.type "method_descriptor")) (hm : MtR X id r) (ho : PE X o to) (ha : PA X (e :: es) t)
    (hbase : attributeBase o name X.env (eval o X.env) = eval o X.env := by rfl)
    (hfew : ((backTo cpos (starEach (e :: es) X.env)).all (fun x => !x.1) && (backToKw cpos (keywordEach [] X.env)).all (fun x => x.1.isSome)
      && decide ((e :: es).length + ([] : List Keyword).length + (if ([] : List Keyword).isEmpty then 0 else 1) < 30)) = true := by rfl)
    (hline : (apos.endLine == cpos.line) = true := by rfl) (hs : starEach (e :: es) X.env = (false, eval e X.env) :: starEach es X.env := by rfl) (hplain : (backTo cpos (starEach es X.env)).any (·.1) = false := by rfl) :
    PE X (.Call (.Attribute o name apos) (e :: es) [] cpos) (tBMG X.K T r to t) := pe_bm pa slot hty hm ho ha hbase hfew hline hs hplain
/-- a for over a list, a tuple, a text -/
def kIt (K : PySem.W.Frag) (R : It → Hp → Prop) (x : V) (H : Hp) : Prop := (∃ a xs, x = .ref a ∧ SqL K H a xs ∧ R (Itl K a) H) ∨ (∃ a xs, x = .ref a ∧ SqT K H a xs ∧ R (Itt K a) H) ∨ ∃ z, x = .str z ∧ R (Its z) H
def iAny (K : PySem.W.Frag) (tl : TE) : TI := fun σ H R => tl σ H fun x H1 => kIt K R x H1
theorem pi_any {tg l : Expr} {tl : TE} (hl : PE X l tl) : PI X tg l (iAny X.K tl) := by
  refine ⟨fun pins s σ H R I h => ?_⟩
  refine thn (hl.run pins s σ H _ I h) fun v s1 ⟨x, H1, I1, r1, q1⟩ => ?_
  rcases q1 with ⟨a, xs, e, hq, q⟩ | ⟨a, xs, e, hq, q⟩ | ⟨z, e, q⟩
  · subst e
    cases r1
    obtain ⟨its, rv, p, hz⟩ := I1.list hq
    refine wpAny_pyIter_list p.isList ?_
    exact pi_one (tk := s1.toks) I1 _ (turn_list a _) ⟨_, Heap.get?_push_size _ rfl, rfl, rfl⟩ q
  · subst e
    cases r1
    obtain ⟨its, rv, p, hz⟩ := I1.tuple hq
    refine wpAny_pyIter_tuple (show s1.heap.IsTuple a its.toArray from p) ?_
    exact pi_one (tk := s1.toks) I1 _ (turn_tuple a _) ⟨_, Heap.get?_push_size _ rfl, rfl, rfl⟩ q
  · subst e
    obtain ⟨t, rfl⟩ := r1
    cases ha : z.cps.all (· < 128)
    · exact wpAny_pyIter_wide ha (pi_one (tk := s1.toks) I1 _ (turn_str _ z t "str_iterator" (.inr rfl)) ⟨_, Heap.get?_push_size _ rfl, rfl, rfl⟩ q)
    · exact wpAny_pyIter_ascii ha (pi_one (tk := s1.toks) I1 _ (turn_str _ z t "str_ascii_iterator" (.inl rfl)) ⟨_, Heap.get?_push_size _ rfl, rfl, rfl⟩ q)
end
/-! ### readings, step by step -/
section
variable {K : PySem.W.Frag} {σ σ' : L2.St} {H : Hp} {Q : VK} {E : XK} {nx bk ct : L2.St → Hp → Prop} {rt : VK} {t u ts : TS} {te ta tb tc : TE} {tt tu : TT} {tl tr : TA} {g : TG} {i : Nat} {v x y : V} {n m : Int} {sp : Sp}
theorem r_seq (h : t ⟨u ⟨nx, rt, bk, ct⟩, rt, bk, ct⟩ σ H) : tSeq t u ⟨nx, rt, bk, ct⟩ σ H := h
theorem r_cut (Mid : L2.St → Hp → Prop) (h : t ⟨Mid, rt, bk, ct⟩ σ H) (k : ∀ σ' H', Mid σ' H' → u ⟨nx, rt, bk, ct⟩ σ' H') : tCut t u ⟨nx, rt, bk, ct⟩ σ H := ⟨Mid, h, k⟩
/-- what follows is proved for each way -/
theorem r_cutn (h : t ⟨u ⟨nx, rt, bk, ct⟩, rt, bk, ct⟩ σ H) : tCut t u ⟨nx, rt, bk, ct⟩ σ H := ⟨_, h, fun _ _ h => h⟩
theorem r_next (h : nx σ H) : tNext ⟨nx, rt, bk, ct⟩ σ H := h
theorem r_break (h : bk σ H) : tBreak ⟨nx, rt, bk, ct⟩ σ H := h
theorem r_cont (h : ct σ H) : tCont ⟨nx, rt, bk, ct⟩ σ H := h
theorem r_asg (h : te σ H fun x H1 => g x σ H1 nx) : tAsg te g ⟨nx, rt, bk, ct⟩ σ H := h
theorem r_drop (h : te σ H fun _ H1 => nx σ H1) : tDrop te ⟨nx, rt, bk, ct⟩ σ H := h
theorem r_ret (h : te σ H rt) : tRet te ⟨nx, rt, bk, ct⟩ σ H := h
theorem r_retN (h : rt .non H) : tRetN ⟨nx, rt, bk, ct⟩ σ H := h
theorem r_ifS (h : tt σ H fun b H1 => if b = true then t ⟨nx, rt, bk, ct⟩ σ H1 else u ⟨nx, rt, bk, ct⟩ σ H1) : tIfS tt t u ⟨nx, rt, bk, ct⟩ σ H := h
theorem r_name {N : L2.St → Hp → Prop} (h : N (σ.set i (some v)) H) : gName i v σ H N := h
theorem r_aug {ti : TIp} (hx : σ[i]? = some (some x)) (h : te σ H fun y H1 => ti x y H1 fun z H2 => nx (σ.set i (some z)) H2) : tAug i te ti ⟨nx, rt, bk, ct⟩ σ H := ⟨x, hx, h⟩
theorem r_ipI {f : Int → Int → Int} (h : Q (.int (f n m)) H) : ipI f (.int n) (.int m) H Q := ⟨n, m, rfl, rfl, h⟩
theorem r_gtup {es : List V} {tg : TGs} {k : Nat} {a : Addr} {N : L2.St → Hp → Prop} (h : H a = some (.tup es)) (hl : es.length = k) (q : tg es σ H N) : gTup K k tg (.ref a) σ H N := ⟨a, es, rfl, .of h, hl, q⟩
theorem r_gcons {g : TG} {gs : TGs} {vs : List V} {N : L2.St → Hp → Prop} (h : g v σ H fun σ' H' => gs vs σ' H' N) : gCons g gs (v :: vs) σ H N := ⟨v, vs, rfl, h⟩
theorem r_gnil {N : L2.St → Hp → Prop} (h : N σ H) : gNil [] σ H N := ⟨rfl, h⟩
theorem r_gsub {to ti : TE} {ts : TSet} {N : L2.St → Hp → Prop} (h : to σ H fun o H1 => ti σ H1 fun i H2 => ts o i v H2 fun H3 => N σ H3) : gSub to ti ts v σ H N := h
theorem r_var (h : σ[i]? = some (some v)) (q : Q v H) : tVar i σ H Q := ⟨v, h, q⟩
theorem r_c (q : Q v H) : tC v σ H Q := q
theorem r_op {r : R2} (h : ta σ H fun x H1 => tb σ H1 fun y H2 => r x y H2 Q) : tOp r ta tb σ H Q := h
theorem r_un {r : V → Hp → VK → Prop} (h : ta σ H fun x H1 => r x H1 Q) : tUn r ta σ H Q := h
theorem r_I0 {f : Int → Int → V} (q : Q (f n m) H) : rI0 f (.int n) (.int m) H Q := ⟨n, m, rfl, rfl, q⟩
theorem r_I {C : Int → Int → Prop} {f : Int → Int → V} (c : C n m) (q : Q (f n m) H) : rI C f (.int n) (.int m) H Q := ⟨n, m, rfl, rfl, c, q⟩
theorem r_U {f : Int → V} (q : Q (f n) H) : rU f (.int n) H Q := ⟨n, rfl, q⟩
theorem r_addI (q : Q (.int (n + m)) H) : rAddA K (.int n) (.int m) H Q := .inl ⟨n, m, rfl, rfl, q⟩
theorem r_addS {a b : Str} (hl : a.length + b.length ≤ 16777216) (q : Q (.str (a ++ b)) H) : rAddA K (.str a) (.str b) H Q := .inr (.inl ⟨a, b, rfl, rfl, by rw [sizeLine_eq]; exact hl, q⟩)
theorem r_addL {a b : Addr} {xs ys : List V} (h1 : H a = some (.lst xs)) (h2 : H b = some (.lst ys)) (hl : xs.length + ys.length ≤ 16777216) (q : ∀ p H', H p = none → Fr [] H H' → H' p = some (.lst (xs ++ ys)) → Q (.ref p) H') : rAddA K (.ref a) (.ref b) H Q :=
  .inr (.inr (.inl ⟨a, b, xs, ys, rfl, rfl, h1, h2, by rw [sizeLine_eq]; exact hl, fun p hp => q p _ hp (.new hp) upd_same⟩))
theorem r_eqI (q : Q (.bl (decide (n = m))) H) : rEqA K (.int n) (.int m) H Q := .inl ⟨n, m, rfl, rfl, q⟩
theorem r_eqS {a b : Str} (q : Q (.bl (decide (a = b))) H) : rEqA K (.str a) (.str b) H Q := .inr (.inl ⟨a, b, rfl, rfl, q⟩)
theorem r_eqD {d e : PyData} (h1 : Dp K H x d) (h2 : Dp K H y e) (s1 : SeqAt.shaped d = true) (s2 : SeqAt.shaped e = true) (q : Q (.bl (PyData.eqv d e)) H) : rEqA K x y H Q := .inr (.inr (.inl ⟨d, e, h1, h2, s1, s2, q⟩))
theorem r_eqG (h : scal x y = true) (q : Q (.bl (decide (x = y))) H) : rEqA K x y H Q := .inr (.inr (.inr ⟨h, q⟩))
theorem r_neI (q : Q (.bl (!decide (n = m))) H) : rNeA K (.int n) (.int m) H Q := .inl ⟨n, m, rfl, rfl, q⟩
theorem r_neS {a b : Str} (q : Q (.bl (!decide (a = b))) H) : rNeA K (.str a) (.str b) H Q := .inr (.inl ⟨a, b, rfl, rfl, q⟩)
theorem r_neD {d e : PyData} (h1 : Dp K H x d) (h2 : Dp K H y e) (s1 : SeqAt.shaped d = true) (s2 : SeqAt.shaped e = true) (q : Q (.bl (!PyData.eqv d e)) H) : rNeA K x y H Q := .inr (.inr (.inl ⟨d, e, h1, h2, s1, s2, q⟩))
theorem r_isB {k b : Bool} (q : Q (.bl (decide (k = b))) H) : rIsBo id (.bl k) (.bl b) H Q := ⟨b, rfl, .inr ⟨k, rfl⟩, by rw [show decide (V.bl k = V.bl b) = decide (k = b) by simp]; exact q⟩
theorem r_isBN {b : Bool} (q : Q (.bl false) H) : rIsBo id .non (.bl b) H Q := ⟨b, rfl, .inl rfl, q⟩
theorem r_isN (q : Q (.bl (decide (x = .non))) H) : L2.rIsN x .non H Q := ⟨rfl, q⟩
theorem r_ntN (q : Q (.bl (!decide (x = .non))) H) : L2.rNotN x .non H Q := ⟨rfl, q⟩
theorem r_inA {p : Addr} {xs : List V} (h : SqL K H p xs ∨ SqT K H p xs) (hx : flatV x = true) (ha : xs.all flatV = true) (q : Q (.bl (inV x xs)) H) : rInA K x (.ref p) H Q := .inl ⟨p, xs, rfl, h, hx, ha, q⟩
theorem r_niA {p : Addr} {xs : List V} (h : SqL K H p xs ∨ SqT K H p xs) (hx : flatV x = true) (ha : xs.all flatV = true) (q : Q (.bl (!inV x xs)) H) : rNiA K x (.ref p) H Q := .inl ⟨p, xs, rfl, h, hx, ha, q⟩
theorem r_ixL {p : Addr} {xs : List V} (h : SqL K H p xs) (e : atI xs n = some v) (q : Q v H) : rIx K (.ref p) (.int n) H Q := .inl ⟨p, xs, n, v, rfl, rfl, h, e, q⟩
theorem r_ixT {p : Addr} {xs : List V} (h : SqT K H p xs) (e : atI xs n = some v) (q : Q v H) : rIx K (.ref p) (.int n) H Q := .inr (.inl ⟨p, xs, n, v, rfl, rfl, h, e, q⟩)
theorem r_ixS {z : Str} {k : Nat} (h : z.length ≤ 16777216) (e : atI z.cps.toList n = some k) (q : Q (.str ⟨#[k]⟩) H) : rIx K (.str z) (.int n) H Q := .inr (.inr ⟨z, n, k, rfl, rfl, by rw [sizeLine_eq]; exact h, e, q⟩)
theorem r_kLst {xs : List V} (hl : xs.length ≤ 10000) (q : ∀ p H', H p = none → Fr [] H H' → H' p = some (.lst xs) → Q (.ref p) H') : kLst xs H Q := ⟨Nat.le_trans hl (by rw [sizeLine_eq]; decide), fun p hp => q p _ hp (.new hp) upd_same⟩
theorem r_kTup {xs : List V} (hl : xs.length ≤ 10000) (q : ∀ p H', H p = none → Fr [] H H' → H' p = some (.tup xs) → Q (.ref p) H') : kTup xs H Q := ⟨Nat.le_trans hl (by rw [sizeLine_eq]; decide), fun p hp => q p _ hp (.new hp) upd_same⟩
theorem r_lst (h : tl σ H fun xs H1 => kLst xs H1 Q) : tLstG tl σ H Q := h
theorem r_tup (h : tl σ H fun xs H1 => kTup xs H1 Q) : tTupG tl σ H Q := h
variable {P : Bool → Hp → Prop} {A B : Prop} {c : Prop} {b : Bool}
theorem r_test (h : te σ H fun x H1 => kB P x H1) : tTestG te σ H P := h
theorem r_kB (h : P b H) : kB P (.bl b) H := ⟨b, rfl, h⟩
theorem r_tru (h : te σ H fun x H1 => kTru K P x H1) : tTruG K te σ H P := h
theorem r_kTru (h : TruV K x H b) (q : P b H) : kTru K P x H := ⟨b, h, q⟩
theorem r_kTruB (q : P b H) : kTru K P (.bl b) H := ⟨b, rfl, q⟩
theorem r_and (h : tt σ H fun c H1 => if c = true then tu σ H1 P else P false H1) : tAnd tt tu σ H P := h
theorem r_or (h : tt σ H fun c H1 => if c = true then P true H1 else tu σ H1 P) : tOr tt tu σ H P := h
theorem r_not (h : tt σ H fun c H1 => P (!c) H1) : tNot tt σ H P := h
theorem r_ifE (h : tt σ H fun c H1 => if c = true then ta σ H1 Q else tb σ H1 Q) : L2.tIf tt ta tb σ H Q := h
theorem r_chain {r r' : R2} (h : ta σ H fun x H1 => tb σ H1 fun y H2 => r x y H2 fun z H3 => kCh r' tc σ y z H3 Q) : tChain r r' ta tb tc σ H Q := h
theorem r_kCh {r : R2} (h : if b = true then tc σ H fun z' H4 => r y z' H4 Q else Q (.bl false) H) : kCh r tc σ y (.bl b) H Q := ⟨b, rfl, h⟩
theorem r_tt (h : A) : if true = true then A else B := iteT h
theorem r_ff (h : B) : if false = true then A else B := iteF h
theorem r_dt [Decidable c] (hc : c) (h : A) : if decide c = true then A else B := by rw [decide_eq_true hc]; exact iteT h
theorem r_df [Decidable c] (hc : ¬ c) (h : B) : if decide c = true then A else B := by rw [decide_eq_false hc]; exact iteF h
theorem r_if [Decidable c] (h1 : c → A) (h2 : ¬ c → B) : if decide c = true then A else B := by
  by_cases hc : c
  · exact r_dt hc (h1 hc)
  · exact r_df hc (h2 hc)
theorem r_ndt [Decidable c] (hc : ¬ c) (h : A) : if (!decide c) = true then A else B := by rw [decide_eq_false hc]; exact iteT h
theorem r_ndf [Decidable c] (hc : c) (h : B) : if (!decide c) = true then A else B := by rw [decide_eq_true hc]; exact iteF h
theorem r_ifn [Decidable c] (h1 : ¬ c → A) (h2 : c → B) : if (!decide c) = true then A else B := by
  by_cases hc : c
  · exact r_ndf hc (h2 hc)
  · exact r_ndt hc (h1 hc)
theorem r_ifb (h1 : b = true → A) (h2 : b = false → B) : if b = true then A else B := by
  cases b with
  | true => exact iteT (h1 rfl)
  | false => exact iteF (h2 rfl)
theorem r_call (h : tl σ H fun vs H1 => sp vs H1 Q E) : tCall sp [] E tl σ H Q := by
  show tl σ H fun vs H1 => sp (vs ++ []) H1 Q E
  simpa only [List.append_nil] using h
theorem r_nil {P : List V → Hp → Prop} (h : P [] H) : tNil σ H P := h
theorem r_cons {P : List V → Hp → Prop} (h : te σ H fun x H1 => tl σ H1 fun xs H2 => P (x :: xs) H2) : tCons te tl σ H P := h
theorem r_fld {f : Str} (h : te σ H fun x H1 => kFld K f x H1 Q) : tFldG K te f σ H Q := h
theorem r_kFld {f : Str} {a C dx : Addr} {fs : List (Str × V)} (h : H a = some (.ins C dx fs)) (c : Cls K C) (n : NoAttr K C f) (l : fs.lookup f = some v) (q : Q v H) : kFld K f (.ref a) H Q := ⟨a, C, dx, fs, v, rfl, h, c, n, l, q⟩
theorem r_sFld {f : Str} (h : tb σ H fun y H1 => ta σ H1 fun x H2 => kSetF K f nx σ y x H2) : sFldG K ta tb f ⟨nx, rt, bk, ct⟩ σ H := h
theorem r_kSetF {f : Str} {a C dx : Addr} {fs : List (Str × V)} (h : H a = some (.ins C dx fs)) (c : Cls K C) (n : NoAttr K C f) (l : fs.length < 1000) (q : ∀ H', Fr [a] H H' → H' a = some (.ins C dx (putF f y fs)) → nx σ H') : kSetF K f nx σ y (.ref a) H := ⟨a, C, dx, fs, rfl, h, c, n, l, q _ (.chg (by rw [h]; trivial)) upd_same⟩
theorem r_cb {r : List V → Hp → VK → Prop} (h : tl σ H fun vs H1 => r vs H1 Q) : tCB r tl σ H Q := h
theorem r_bm {T : String} {r : V → List V → Hp → VK → Prop} (h : te σ H fun x H1 => kTy K T (tl σ H1 fun xs H2 => r x xs H2 Q) x H1) : tBMG K T r te tl σ H Q := h
theorem r_bm0 {T : String} {r : V → List V → Hp → VK → Prop} (h : te σ H fun x H1 => kTy K T (r x [] H1 Q) x H1) : tBMG0 K T r te σ H Q := h
theorem r_tyL {p : Addr} {xs : List V} {P : Prop} (h : H p = some (.lst xs)) (q : P) : kTy K "list" P (.ref p) H := ⟨.inl ⟨rfl, xs, .of h⟩, q⟩
theorem r_tyS {z : Str} {P : Prop} (q : P) : kTy K "str" P (.str z) H := ⟨rfl, q⟩
theorem r_append {l : Addr} {xs : List V} (h : H l = some (.lst xs)) (hl : xs.length < 16777216) (q : ∀ H', Fr [l] H H' → H' l = some (.lst (xs ++ [y])) → Q .non H') : rAppend (.ref l) [y] H Q := ⟨l, xs, y, rfl, rfl, h, by rw [sizeLine_eq]; exact hl, q _ (.chg (by rw [h]; trivial)) upd_same⟩
theorem r_pop {l : Addr} {xs : List V} (h : H l = some (.lst xs)) (e : xs[xs.length - 1]? = some y) (q : ∀ H', Fr [l] H H' → H' l = some (.lst xs.dropLast) → Q y H') : rPop (.ref l) [] H Q := ⟨l, xs, y, rfl, rfl, h, e, q _ (.chg (by rw [h]; trivial)) upd_same⟩
theorem r_reverse {l : Addr} {xs : List V} (h : H l = some (.lst xs)) (q : ∀ H', Fr [l] H H' → H' l = some (.lst xs.reverse) → Q .non H') : rReverse (.ref l) [] H Q := ⟨l, xs, rfl, rfl, h, q _ (.chg (by rw [h]; trivial)) upd_same⟩
theorem r_setL {p : Addr} {xs : List V} {j : Nat} {N : Hp → Prop} (h : H p = some (.lst xs)) (e : ixN xs.length n = some j) (q : ∀ H', Fr [p] H H' → H' p = some (.lst (xs.set j v)) → N H') : rSetL (.ref p) (.int n) v H N := ⟨p, xs, n, j, rfl, rfl, h, e, q _ (.chg (by rw [h]; trivial)) upd_same⟩
end
/-! ### built-ins by name -/
section
variable {X : Cx} {K : PySem.W.Frag} {H : Hp} {Q : VK} {x : V} {n m : Int} {b : Bool}
def kAbs : List V → Hp → VK → Prop := fun xs H Q => ∃ i, xs = [.int i] ∧ Q (.int (if i < 0 then -i else i)) H
theorem c_abs : CallR X (.builtin "abs") kAbs := call_abs
theorem r_abs (q : Q (.int (if n < 0 then -n else n)) H) : kAbs [.int n] H Q := ⟨n, rfl, q⟩
def kInt1 : List V → Hp → VK → Prop := fun xs H Q => (∃ i, xs = [.int i] ∧ Q (.int i) H) ∨ ∃ k, xs = [.bl k] ∧ Q (.int (if k then 1 else 0)) H
theorem c_int : CallR X (.type "int") kInt1 := call_int1
theorem r_int (q : Q (.int n) H) : kInt1 [.int n] H Q := .inl ⟨n, rfl, q⟩
theorem r_intB (q : Q (.int (if b then 1 else 0)) H) : kInt1 [.bl b] H Q := .inr ⟨b, rfl, q⟩
def kMin2 : List V → Hp → VK → Prop := fun xs H Q => ∃ i j, xs = [.int i, .int j] ∧ Q (.int (if j < i then j else i)) H
theorem c_min2 (hc : X.calm = true) : CallR X (.builtin "min") kMin2 := call_min2 hc
theorem r_min2 (q : Q (.int (if m < n then m else n)) H) : kMin2 [.int n, .int m] H Q := ⟨n, m, rfl, q⟩
def kMax2 : List V → Hp → VK → Prop := fun xs H Q => ∃ i j, xs = [.int i, .int j] ∧ Q (.int (if j > i then j else i)) H
theorem c_max2 (hc : X.calm = true) : CallR X (.builtin "max") kMax2 := call_max2 hc
theorem r_max2 (q : Q (.int (if m > n then m else n)) H) : kMax2 [.int n, .int m] H Q := ⟨n, m, rfl, q⟩
def kLen (K : PySem.W.Frag) : List V → Hp → VK → Prop := fun xs H Q => ∃ x n, xs = [x] ∧ LenV K x H n ∧ Q (.int n) H
theorem c_len : CallR X (.builtin "len") (kLen X.K) := call_len
theorem r_lenL {p : Addr} {xs : List V} (h : SqL K H p xs) (q : Q (.int xs.length) H) : kLen K [.ref p] H Q := ⟨_, _, rfl, .inl ⟨xs, h, rfl⟩, q⟩
theorem r_lenT {p : Addr} {xs : List V} (h : SqT K H p xs) (q : Q (.int xs.length) H) : kLen K [.ref p] H Q := ⟨_, _, rfl, .inr ⟨xs, h, rfl⟩, q⟩
theorem r_lenS {z : Str} (h : z.length ≤ 16777216) (q : Q (.int z.length) H) : kLen K [.str z] H Q := ⟨_, _, rfl, ⟨by rw [sizeLine_eq]; exact h, rfl⟩, q⟩
def kListOf (K : PySem.W.Frag) : List V → Hp → VK → Prop := fun xs H Q => ∃ p ys, xs = [.ref p] ∧ (SqL K H p ys ∨ SqT K H p ys) ∧ ∀ l, H l = none → Q (.ref l) (upd H l (.lst ys))
theorem c_listOf : CallR X (.type "list") (kListOf X.K) := call_list_of
theorem r_listOf {p : Addr} {xs : List V} (h : SqL K H p xs ∨ SqT K H p xs) (q : ∀ l H', H l = none → Fr [] H H' → H' l = some (.lst xs) → Q (.ref l) H') : kListOf K [.ref p] H Q := ⟨p, xs, rfl, h, fun l hl => q l _ hl (.new hl) upd_same⟩
def kIsi (K : PySem.W.Frag) : List V → Hp → VK → Prop := fun xs H Q => rIsi K xs H Q ∨ rIsiT K xs H Q
theorem c_isi : CallR X (.builtin "isinstance") (kIsi X.K) := call_isi.or call_isiT
theorem r_isi1 {c : String} {t : Value} (h : TyX K H x t) (hk : PySem.W.kitOne K t (.type c) = some b) (q : Q (.bl b) H) : kIsi K [x, .ty c] H Q := .inl ⟨x, .ty c, t, .type c, b, rfl, .ty c, h, hk, q⟩
theorem r_isi2 {c c' : String} {t : Value} {p : Addr} (hp : H p = some (.tup [.ty c, .ty c'])) (h : TyX K H x t) (hk : PySem.W.kitAny K t [.type c, .type c'] = some b) (q : Q (.bl b) H) : kIsi K [x, .ref p] H Q :=
  .inr ⟨x, p, [.ty c, .ty c'], t, [.type c, .type c'], b, rfl, hp, .cons (.ty c) (.cons (.ty c') .nil), h, hk, q⟩
end
/-- the name of a datum's type -/
def tag : PyData → String
  | .none => "NoneType" | .bool _ => "bool" | .int _ => "int" | .str _ => "str" | .list _ => "list" | .tuple _ => "tuple" | .dict _ => "dict"
theorem tag_ok {K : PySem.W.Frag} {H : Hp} {x : V} {d : PyData} (h : Dp K H x d) : TyX K H x (.type (tag d)) := by
  cases h with
  | non => exact .base .non
  | bl b => exact .base (.bl b)
  | int i => exact .base (.int i)
  | str z => exact .base (.str z)
  | lst hs _ =>
    rcases hs with (e | ⟨o, e⟩) | ⟨o, its, n, e, hc, _⟩
    · exact .base (.lst e)
    · exact .base (.frz e)
    · exact .kList e hc
  | tup hs _ =>
    rcases hs with (e | ⟨o, e⟩) | ⟨o, its, n, e, hc, _⟩
    · exact .base (.tup e)
    · exact .fTuple e
    · exact .kTuple e hc
section
variable {K : PySem.W.Frag} {H : Hp} {Q : VK} {n m : Int}
theorem r_mulI (c : CMul n m) (q : Q (.int (n * m)) H) : rMulA (.int n) (.int m) H Q := .inl ⟨n, m, rfl, rfl, c, q⟩
theorem r_mulL {l : Addr} {xs : List V} (h : H l = some (.lst xs)) (b : -(2 ^ 63) ≤ n ∧ n < 2 ^ 63) (hl : xs.length * n.toNat ≤ 16777216) (q : ∀ p H', H p = none → Fr [] H H' → H' p = some (.lst (List.replicate n.toNat xs).flatten) → Q (.ref p) H') : rMulA (.ref l) (.int n) H Q :=
  .inr (.inl ⟨l, n, xs, rfl, rfl, h, b.1, b.2, by rw [sizeLine_eq]; exact hl, fun p hp => q p _ hp (.new hp) (by first | exact upd_same | (rw [upd_same]; simp))⟩)
theorem r_mulS {z : Str} (ok : MulOk z n) (q : Q (.str (Txt.mul z n)) H) : rMulA (.str z) (.int n) H Q := .inr (.inr ⟨z, n, rfl, rfl, ok, q⟩)
theorem r_mod (h : 0 < m) (q : Q (.int (n % m)) H) : rI (fun _ j => 0 < j) (fun i j => .int (i % j)) (.int n) (.int m) H Q := ⟨n, m, rfl, rfl, h, q⟩
theorem r_fdiv (h : 0 < m ∧ m < 1073741824) (q : Q (.int (n / m)) H) : rI CDiv (fun i j => .int (i / j)) (.int n) (.int m) H Q := ⟨n, m, rfl, rfl, h, q⟩
theorem r_pow (h : 0 ≤ m ∧ m ≤ 1000000 ∧ n.natAbs < 2 ^ 64) (q : Q (.int (n ^ m.toNat)) H) : rI CPow (fun i j => .int (i ^ j.toNat)) (.int n) (.int m) H Q := ⟨n, m, rfl, rfl, h, q⟩
end
def rSplit : V → List V → Hp → VK → Prop := fun x xs H Q => ∃ a b, x = .str a ∧ xs = [.str b] ∧ (b.length == 0) = false ∧ a.length + 2 ≤ sizeLine ∧ rNewStrs (Txt.split a b) H Q
theorem mt_splitG {X : Cx} : MtR X "str.split" rSplit := mt_split
theorem r_split {H : Hp} {Q : VK} {a b : Str} {ys : List Str} (hb : (b.length == 0) = false) (hl : a.length + 2 ≤ 16777216) (e : Txt.split a b = ys) (q : ∀ p H', H p = none → Fr [] H H' → H' p = some (.lst (ys.map V.str)) → Q (.ref p) H') : rSplit (.str a) [.str b] H Q :=
  ⟨a, b, rfl, rfl, hb, by rw [sizeLine_eq]; exact hl, by rw [e]; exact fun p hp => q p _ hp (.new hp) upd_same⟩
theorem at_lit {α : Type} {xs : List α} {r : Int} (h0 : 0 ≤ r) (h1 : r < xs.length) : ∃ v, atI xs r = some v ∧ v ∈ xs := by
  obtain ⟨k, rfl⟩ := Int.eq_ofNat_of_zero_le h0
  have hk : k < xs.length := by omega
  exact ⟨xs[k], atI_nat (List.getElem?_eq_getElem hk), List.getElem_mem hk⟩
/-- an item of a list at a place that is drawn -/
theorem r_ixP {K : PySem.W.Frag} {H : Hp} {Q : VK} {p : Addr} {xs : List V} {r : Int} (h : SqL K H p xs) (h0 : 0 ≤ r) (h1 : r < (xs.length : Int)) (q : ∀ v, v ∈ xs → Q v H) : rIx K (.ref p) (.int r) H Q := by
  obtain ⟨v, e, m⟩ := at_lit h0 h1
  exact r_ixL h e (q v m)
theorem SqL.one {K : PySem.W.Frag} {H : Hp} {p : Addr} {xs : List V} (h : H p = some (.lst xs)) : SqL K H p xs := .of h
theorem inV_str {w : Str} : ∀ {ws : List Str}, inV (.str w) (ws.map V.str) = decide (w ∈ ws)
  | [] => rfl
  | a :: ws => by
    have ih := inV_str (w := w) (ws := ws)
    unfold inV at ih ⊢
    rw [List.map_cons, List.any_cons, ih]
    show ((a == w) || decide (w ∈ ws)) = decide (w ∈ a :: ws)
    by_cases e : w = a
    · subst e; simp
    · have e' : ¬ a = w := fun q => e q.symm
      simp [e, e']
/-- w in [.., ..] of texts -/
theorem r_inS {K : PySem.W.Frag} {H : Hp} {Q : VK} {p : Addr} {w : Str} (ws : List Str) (h : SqL K H p (ws.map V.str) ∨ SqT K H p (ws.map V.str)) (q : Q (.bl (decide (w ∈ ws))) H) : rInA K (.str w) (.ref p) H Q :=
  r_inA h rfl (by rw [List.all_map]; exact List.all_eq_true.mpr fun _ _ => rfl) (by rw [inV_str]; exact q)
theorem r_niS {K : PySem.W.Frag} {H : Hp} {Q : VK} {p : Addr} {w : Str} (ws : List Str) (h : SqL K H p (ws.map V.str) ∨ SqT K H p (ws.map V.str)) (q : Q (.bl (!decide (w ∈ ws))) H) : rNiA K (.str w) (.ref p) H Q :=
  r_niA h rfl (by rw [List.all_map]; exact List.all_eq_true.mpr fun _ _ => rfl) (by rw [inV_str]; exact q)
/-! ### loops and comprehensions -/
def kFor (g : TG) (tb : TS) (D : Ends) (σ : L2.St) (J : It) (H : Hp) : Prop := ∃ W : Nat → Nat → L2.St → Hp → Prop, (∃ m, W 0 m σ H) ∧ ∀ i m σ H, W i m σ H →
  (J.stop i H ∧ D.nx σ H) ∨ (J.go i H ∧ ∃ N : L2.St → Hp → Prop, (∀ σ' H', N σ' H' → ∃ m', m' < m ∧ W (i + 1) m' σ' H') ∧ ∀ x H', J.yld i H x H' → g x σ H' fun σ2 H2 => tb { D with nx := N, ct := N, bk := D.nx } σ2 H2)
def kRng1 (R : It → Hp → Prop) (vs : List V) (H : Hp) : Prop := ∃ j : Int, vs = [.int j] ∧ -(2 ^ 62) ≤ j ∧ j < 2 ^ 62 ∧ R (Itr 0 j.toNat) H
def kRng2 (R : It → Hp → Prop) (vs : List V) (H : Hp) : Prop := ∃ i j : Int, vs = [.int i, .int j] ∧ (-(2 ^ 62) ≤ i ∧ i < 2 ^ 62 ∧ -(2 ^ 62) ≤ j ∧ j < 2 ^ 62) ∧ R (Itr i (j - i).toNat) H
def kAcc (D : Addr) (N : Hp → Prop) (y : V) (H : Hp) : Prop := ∃ acc, H D = some (.lst acc) ∧ acc.length < sizeLine ∧ N (upd H D (.lst (acc ++ [y])))
def kElt (D : Addr) (N : Hp → Prop) (tt : TT) (te : TE) (vs : List Nat) (σ σ2 : L2.St) (H : Hp) : Prop := wipe σ2 vs = wipe σ vs ∧ tt σ2 H fun b H3 => if b = true then te σ2 H3 fun y H4 => kAcc D N y H4 else N H3
def kLc (g : TG) (tt : TT) (te : TE) (vs : List Nat) (σ : L2.St) (Q : VK) (J : It) (H1 : Hp) : Prop := ∀ D, H1 D = none → ∃ W : Nat → Nat → Hp → Prop, (∃ m, W 0 m (upd H1 D (.lst []))) ∧ ∀ i m H, W i m H →
  (J.stop i H ∧ Q (.ref D) H) ∨ (J.go i H ∧ ∃ Nx : Hp → Prop, (∀ H', Nx H' → ∃ m', m' < m ∧ W (i + 1) m' H') ∧ ∀ x H', J.yld i H x H' → g x (wipe σ vs) H' fun σ2 H2 => kElt D Nx tt te vs σ σ2 H2)
section
variable {K : PySem.W.Frag} {σ σ' σ2 : L2.St} {H : Hp} {Q : VK} {nx bk ct : L2.St → Hp → Prop} {rt : VK} {tb : TS} {te tl : TE} {ta : TA} {tt : TT} {g : TG} {n : Nat} {lo hi j : Int} {x y : V} {J : It} {wi : TI} {R : It → Hp → Prop} {vs : List Nat} {D : Ends}
theorem r_for (h : wi σ H fun J H1 => kFor g tb ⟨nx, rt, bk, ct⟩ σ J H1) : tFor wi g tb ⟨nx, rt, bk, ct⟩ σ H := h
theorem r_lc (h : wi σ H fun J H1 => kLc g tt te vs σ Q J H1) : tLc wi g tt te vs σ H Q := h
theorem r_rng1 (h : ta σ H fun vs H1 => kRng1 R vs H1) : iRng1 ta σ H R := h
theorem r_rng2 (h : ta σ H fun vs H1 => kRng2 R vs H1) : iRng2 ta σ H R := h
theorem r_kRng1 (h : -(2 ^ 62) ≤ j ∧ j < 2 ^ 62) (q : R (Itr 0 j.toNat) H) : kRng1 R [.int j] H := ⟨j, rfl, h.1, h.2, q⟩
theorem r_kRng2 (h : (-(2 ^ 62) ≤ lo ∧ lo < 2 ^ 62) ∧ -(2 ^ 62) ≤ hi ∧ hi < 2 ^ 62) (q : R (Itr lo (hi - lo).toNat) H) : kRng2 R [.int lo, .int hi] H := ⟨lo, hi, rfl, ⟨h.1.1, h.1.2, h.2.1, h.2.2⟩, q⟩
theorem r_iAny (h : tl σ H fun x H1 => kIt K R x H1) : iAny K tl σ H R := h
theorem r_itL {a : Addr} {xs : List V} (h : SqL K H a xs) (q : R (Itl K a) H) : kIt K R (.ref a) H := .inl ⟨a, xs, rfl, h, q⟩
theorem r_itT {a : Addr} {xs : List V} (h : SqT K H a xs) (q : R (Itt K a) H) : kIt K R (.ref a) H := .inr (.inl ⟨a, xs, rfl, h, q⟩)
theorem r_itS {z : Str} (q : R (Its z) H) : kIt K R (.str z) H := .inr (.inr ⟨z, rfl, q⟩)
theorem f_it {G : Hp → Prop} {Y : Nat → Hp → V → Hp → Prop} (w : Walk J n G Y) (Pv : Nat → L2.St → Hp → Prop) (h0 : Pv 0 σ H) (hG : ∀ i σ H, i ≤ n → Pv i σ H → G H)
    (hs : ∀ i x σ H H', i < n → Pv i σ H → Y i H x H' → g x σ H' fun σ2 H2 => tb ⟨Pv (i + 1), rt, nx, Pv (i + 1)⟩ σ2 H2) (hd : ∀ σ H, Pv n σ H → nx σ H) : kFor g tb ⟨nx, rt, bk, ct⟩ σ J H :=
  for_it (D := ⟨nx, rt, bk, ct⟩) w Pv h0 hG hs hd
theorem f_range (Pv : Nat → L2.St → Hp → Prop) (h0 : Pv 0 σ H)
    (hs : ∀ (i : Nat) σ H, i < n → Pv i σ H → g (.int (lo + i)) σ H fun σ2 H2 => tb ⟨Pv (i + 1), rt, nx, Pv (i + 1)⟩ σ2 H2) (hd : ∀ σ H, Pv n σ H → nx σ H) : kFor g tb ⟨nx, rt, bk, ct⟩ σ (Itr lo n) H :=
  f_it walk_range Pv h0 (fun _ _ _ _ _ => trivial) (fun i x σ H H' hi p y => by obtain ⟨rfl, rfl⟩ := y; exact hs i σ _ hi p) hd
theorem f_list {a : Addr} {xs : List V} (Pv : Nat → L2.St → Hp → Prop) (h0 : Pv 0 σ H) (hl : ∀ i σ H, Pv i σ H → SqL K H a xs)
    (hs : ∀ (i : Nat) x σ H, xs[i]? = some x → Pv i σ H → g x σ H fun σ2 H2 => tb ⟨Pv (i + 1), rt, nx, Pv (i + 1)⟩ σ2 H2) (hd : ∀ σ H, Pv xs.length σ H → nx σ H) : kFor g tb ⟨nx, rt, bk, ct⟩ σ (Itl K a) H :=
  f_it walk_list Pv h0 (fun i σ H _ p => hl i σ H p) (fun i x σ H H' hi p y => by obtain ⟨rfl, e⟩ := y; exact hs i x σ _ e p) hd
theorem f_tup {a : Addr} {xs : List V} (Pv : Nat → L2.St → Hp → Prop) (h0 : Pv 0 σ H) (hl : ∀ i σ H, Pv i σ H → SqT K H a xs)
    (hs : ∀ (i : Nat) x σ H, xs[i]? = some x → Pv i σ H → g x σ H fun σ2 H2 => tb ⟨Pv (i + 1), rt, nx, Pv (i + 1)⟩ σ2 H2) (hd : ∀ σ H, Pv xs.length σ H → nx σ H) : kFor g tb ⟨nx, rt, bk, ct⟩ σ (Itt K a) H :=
  f_it walk_tup Pv h0 (fun i σ H _ p => hl i σ H p) (fun i x σ H H' hi p y => by obtain ⟨rfl, e⟩ := y; exact hs i x σ _ e p) hd
theorem f_str {z : Str} (Pv : Nat → L2.St → Hp → Prop) (h0 : Pv 0 σ H)
    (hs : ∀ (i : Nat) c σ H, z.cps[i]? = some c → Pv i σ H → g (.str ⟨#[c]⟩) σ H fun σ2 H2 => tb ⟨Pv (i + 1), rt, nx, Pv (i + 1)⟩ σ2 H2) (hd : ∀ σ H, Pv z.cps.size σ H → nx σ H) : kFor g tb ⟨nx, rt, bk, ct⟩ σ (Its z) H :=
  f_it walk_str Pv h0 (fun _ _ _ _ _ => trivial) (fun i x σ H H' hi p y => by obtain ⟨rfl, c, e, rfl⟩ := y; exact hs i c σ _ e p) hd
theorem r_kElt {A : Addr} {N : Hp → Prop} (h : wipe σ2 vs = wipe σ vs) (q : tt σ2 H fun b H3 => if b = true then te σ2 H3 fun y H4 => kAcc A N y H4 else N H3) : kElt A N tt te vs σ σ2 H := ⟨h, q⟩
theorem r_yes {P : Bool → Hp → Prop} (h : P true H) : tYes σ H P := h
theorem r_kAcc {A : Addr} {acc : List V} {N : Hp → Prop} (h : H A = some (.lst acc)) (hl : acc.length < 16777216) (q : ∀ H', Fr [A] H H' → H' A = some (.lst (acc ++ [y])) → N H') : kAcc A N y H :=
  ⟨acc, h, by rw [sizeLine_eq]; exact hl, q _ (.chg (by rw [h]; trivial)) upd_same⟩
theorem l_it {G : Hp → Prop} {Y : Nat → Hp → V → Hp → Prop} (w : Walk J n G Y) (Pv : Addr → Nat → Hp → Prop) (h0 : ∀ A H', H A = none → Fr [] H H' → H' A = some (.lst []) → Pv A 0 H') (hG : ∀ A i H, i ≤ n → Pv A i H → G H)
    (hs : ∀ A i x H1 H', H A = none → i < n → Pv A i H1 → Y i H1 x H' → g x (wipe σ vs) H' fun σ2 H2 => kElt A (Pv A (i + 1)) tt te vs σ σ2 H2) (hd : ∀ A H', H A = none → Pv A n H' → Q (.ref A) H') : kLc g tt te vs σ Q J H := fun A hA =>
  lc_it w (Pv A) (h0 A _ hA (.new hA) upd_same) (hG A) (fun i x H1 H' hi p y => hs A i x H1 H' hA hi p y) (fun H' p => hd A H' hA p)
theorem l_range (Pv : Addr → Nat → Hp → Prop) (h0 : ∀ A H', H A = none → Fr [] H H' → H' A = some (.lst []) → Pv A 0 H')
    (hs : ∀ A (i : Nat) H1, H A = none → i < n → Pv A i H1 → g (.int (lo + i)) (wipe σ vs) H1 fun σ2 H2 => kElt A (Pv A (i + 1)) tt te vs σ σ2 H2) (hd : ∀ A H', H A = none → Pv A n H' → Q (.ref A) H') : kLc g tt te vs σ Q (Itr lo n) H :=
  l_it walk_range Pv h0 (fun _ _ _ _ _ => trivial) (fun A i x H1 H' hA hi p y => by obtain ⟨rfl, rfl⟩ := y; exact hs A i _ hA hi p) hd
theorem l_list {a : Addr} {xs : List V} (Pv : Addr → Nat → Hp → Prop) (h0 : ∀ A H', H A = none → Fr [] H H' → H' A = some (.lst []) → Pv A 0 H') (hl : ∀ A i H, Pv A i H → SqL K H a xs)
    (hs : ∀ A (i : Nat) x H1, H A = none → xs[i]? = some x → Pv A i H1 → g x (wipe σ vs) H1 fun σ2 H2 => kElt A (Pv A (i + 1)) tt te vs σ σ2 H2) (hd : ∀ A H', H A = none → Pv A xs.length H' → Q (.ref A) H') : kLc g tt te vs σ Q (Itl K a) H :=
  l_it walk_list Pv h0 (fun A i H _ p => hl A i H p) (fun A i x H1 H' hA hi p y => by obtain ⟨rfl, e⟩ := y; exact hs A i x _ hA e p) hd
theorem l_tup {a : Addr} {xs : List V} (Pv : Addr → Nat → Hp → Prop) (h0 : ∀ A H', H A = none → Fr [] H H' → H' A = some (.lst []) → Pv A 0 H') (hl : ∀ A i H, Pv A i H → SqT K H a xs)
    (hs : ∀ A (i : Nat) x H1, H A = none → xs[i]? = some x → Pv A i H1 → g x (wipe σ vs) H1 fun σ2 H2 => kElt A (Pv A (i + 1)) tt te vs σ σ2 H2) (hd : ∀ A H', H A = none → Pv A xs.length H' → Q (.ref A) H') : kLc g tt te vs σ Q (Itt K a) H :=
  l_it walk_tup Pv h0 (fun A i H _ p => hl A i H p) (fun A i x H1 H' hA hi p y => by obtain ⟨rfl, e⟩ := y; exact hs A i x _ hA e p) hd
def kTurn (Pv : Nat → L2.St → Hp → Prop) (m : Nat) (tb : TS) (nx : L2.St → Hp → Prop) (rt : VK) (σ : L2.St) (H : Hp) : Prop :=
  ∃ N : L2.St → Hp → Prop, (∀ σ' H', N σ' H' → ∃ m', m' < m ∧ Pv m' σ' H') ∧ tb ⟨N, rt, nx, N⟩ σ H
theorem r_turn {Pv : Nat → L2.St → Hp → Prop} {m : Nat} (h : tb ⟨fun σ' H' => ∃ m', m' < m ∧ Pv m' σ' H', rt, nx, fun σ' H' => ∃ m', m' < m ∧ Pv m' σ' H'⟩ σ H) : kTurn Pv m tb nx rt σ H := ⟨_, fun _ _ h => h, h⟩
theorem f_while {c : TT} (Pv : Nat → L2.St → Hp → Prop) (m : Nat) (h0 : Pv m σ H)
    (hs : ∀ m σ H, Pv m σ H → c σ H fun b H1 => if b = true then kTurn Pv m tb nx rt σ H1 else nx σ H1) : tWhile c tb ⟨nx, rt, bk, ct⟩ σ H := ⟨Pv, ⟨m, h0⟩, hs⟩
end
end G

namespace G
open PySem PySem.Spec L2
/-! ### zip of a text and a tuple -/
theorem drawsTuple {prog : Program} {w : World} {A : Around} (hh : A.handled = none) (it l : Addr) (hne : l ≠ it) (items : Array Value) :
    Draws prog w A it [it, l] items.size (fun i v => items[i]? = some v) (fun i h => h.IsTupleIter it l i ∧ h.IsTuple l items) where
  live := fun _ _ st => let ⟨o, ho, _⟩ := st.1; ⟨o, ho⟩
  frame := fun _ _ _ st hk => by
    obtain ⟨⟨o, ho, r⟩, ⟨ol, hol, r2⟩⟩ := st
    exact ⟨⟨o, hk it (by simp) o ho, r⟩, ⟨ol, hk l (by simp) ol hol, r2⟩⟩
  item := fun i s Q E hi st hQ => by
    refine RZ.nextOf_tuple_item st.1 st.2 (x := items[i]) (by simp [hi]) fun h' hit' hs' => ?_
    obtain ⟨ol, hol, r2⟩ := st.2
    exact hQ _ h' s.toks (by simp [hi]) ⟨hit', ⟨ol, (hs'.2 _ hne).trans hol, r2⟩⟩ hs'
  done := fun s Q E st hE => RZ.nextOf_tuple_end hh st.1 st.2 (by simp) hE
def ItzST (K : PySem.W.Frag) (z : Str) (b : Addr) : It :=
  ⟨fun i H => i < z.cps.size ∧ ∃ ys : List V, SqT K H b ys ∧ i < ys.length,
    fun i H v H' => ∃ T c y, v = .ref T ∧ H T = none ∧ H' = upd H T (.tup [.str ⟨#[c]⟩, y]) ∧ z.cps[i]? = some c ∧ ∀ ys, SqT K H b ys → ys[i]? = some y,
    fun i H => i ≤ z.cps.size ∧ ∃ ys : List V, SqT K H b ys ∧ i ≤ ys.length ∧ (z.cps.size = i ∨ ys.length = i)⟩
theorem turn_zipST {P : Program} {w : World} {K : PySem.W.Frag} {elts : List Expr} {kk : Nat} {tpos : Pos} {z : Str} {tz : Tok} {b zi TI TO i1 i2 : Addr} (D : ZipApart zi TI TO i1 i2 b b) :
    Turn P w K (.Tuple elts kk tpos) (ItzST K z b) [zi, TI, TO, i1, i2] zi (fun i h => IsZip h zi TI TO .none ∧ IsPair h TI (.ref i1) (.ref i2) ∧ (∃ x y, IsPair h TO x y) ∧ h.IsStrIter i1 "str_ascii_iterator" z tz i ∧ h.IsTupleIter i2 b i) where
  mem := by simp
  obj := fun i h st c hc => by
    obtain ⟨hz, hTI, ⟨x, y, hTO⟩, ⟨o1, e1, _, d1⟩, ⟨o2, e2, _, d2⟩⟩ := st
    have e' : c = zi ∨ c = TI ∨ c = TO ∨ c = i1 ∨ c = i2 := by simpa using hc
    rcases e' with q | q | q | q | q
    · rw [q]; exact ⟨_, hz, fun v q => nomatch q⟩
    · rw [q]; exact ⟨_, hTI, fun v q => nomatch q⟩
    · rw [q]; exact ⟨_, hTO, fun v q => nomatch q⟩
    · rw [q]; exact ⟨o1, e1, fun v q => by rw [d1] at q; cases q⟩
    · rw [q]; exact ⟨o2, e2, fun v q => by rw [d2] at q; cases q⟩
  keep := fun i h h' st k => by
    obtain ⟨hz, hTI, ⟨x, y, hTO⟩, ⟨o1, e1, r1⟩, h2⟩ := st
    exact ⟨k zi (by simp) _ hz, k TI (by simp) _ hTI, ⟨x, y, k TO (by simp) _ hTO⟩, ⟨o1, k i1 (by simp) _ e1, r1⟩, h2.at fun o q => k i2 (by simp) o q⟩
  item := by
    intro X hP hw hK hc i pins s σ H E I hf st hg
    subst hP hw hK
    obtain ⟨hz, hTI, ⟨x0, y0, hTO⟩, h1, h2⟩ := st
    obtain ⟨hi1, ys, hqy, hi2⟩ := hg
    obtain ⟨its2, rv2, p2, _⟩ := I.tuple hqy
    have l2 := rv2.length
    have hzl : zi < s.heap.objs.size := Heap.lt_size hz
    have D1 : Draws X.prog X.w X.A.in1 i1 [i1] z.cps.size (fun i v => ∃ c u, z.cps[i]? = some c ∧ v = .str ⟨#[c]⟩ u) (fun i h => h.IsStrIter i1 "str_ascii_iterator" z tz i) := Draws.strAscii (A := X.A.in1) (show X.A.in1.handled = none from I.ok.hd hc) i1 z tz
    have D2 : Draws X.prog X.w X.A.in1 i2 [i2, b] its2.toArray.size (fun i v => its2.toArray[i]? = some v) (fun i h => h.IsTupleIter i2 b i ∧ h.IsTuple b its2.toArray) := drawsTuple (A := X.A.in1) (show X.A.in1.handled = none from I.ok.hd hc) i2 b D.l1i2 _
    have S : ZipSep2 zi TI TO i1 i2 [i1] [i2, b] :=
      ⟨D.TIz, D.TOz, D.TITO, D.TIi1, by simp, by simpa using D.i1z.symm, by simpa using D.TOi1, D.TIi2, by simp, by simpa using ⟨D.i2z.symm, D.l1z.symm⟩, by simpa using ⟨D.TOi2, D.l1TO.symm⟩, by simpa using ⟨D.i12, D.l1i1.symm⟩, by simpa using D.i12.symm⟩
    refine wpAny_pyNext_zipD2_item S D1 D2 hz hTI hTO h1 ⟨h2, p2⟩ hi1 (by rw [List.size_toArray]; omega) fun x1 x2 h' tk y1 y2 z' TO' h1' h2' hT hsz hk => ?_
    obtain ⟨c, u1, hc1, rfl⟩ := y1
    have hx2 : its2[i]? = some x2 := by simpa using y2
    obtain ⟨yv, hyv⟩ : ∃ y, ys[i]? = some y := ⟨ys[i], List.getElem?_eq_getElem hi2⟩
    obtain ⟨u2, hu2, ru2⟩ := rv2.get hyv
    have eu : u2 = x2 := Option.some.inj (hu2.symm.trans hx2)
    subst eu
    refine ⟨_, rfl, wpAny_letOwnedTupleGo_zip (s := { s with heap := h', toks := tk }) z' fun h'' z'' sb => ?_⟩
    have hT2 : h''.get? s.heap.objs.size = some { cls := .type "tuple", data := .seq #[.str ⟨#[c]⟩ u1, u2] } := (sb.2 _ (Nat.ne_of_gt hzl)).trans hT
    have new : ObjOk X.prog X.w (upd H s.heap.objs.size (.tup [.str ⟨#[c]⟩, yv])) h'' s.heap.objs.size (.tup [.str ⟨#[c]⟩, yv]) :=
      ⟨by show 2 ≤ sizeLine; decide, [_, u2], .cons ⟨u1, rfl⟩ (.cons ru2 .nil), ⟨_, hT2, rfl, _, rfl⟩⟩
    have I1 : Inv X pins σ (upd H s.heap.objs.size (.tup [.str ⟨#[c]⟩, yv])) { s with heap := h'', toks := tk } :=
      I.turnedNew (t' := tk) (ch := [zi, TI, TO, i1, i2]) (fun c o hb q => (sb.2 c (fun q' => hb (by simp [q']))).trans (hk c o (fun q' => hb (by simp [q'])) (fun q' => hb (by simp [q'])) (fun q' => hb (by simp [q'])) (fun q' => hb (by simp [q'])) q)) hf (Nat.le_refl _) new
    refine ⟨.ref s.heap.objs.size, _, I1, rfl, ⟨_, c, yv, rfl, I.hok.fresh (Nat.le_refl _), rfl, hc1, fun l hl => by rw [I.tuple_inj hl hqy]; exact hyv⟩, ⟨z'', ?_, ⟨.str ⟨#[c]⟩ u1, u2, ?_⟩, ?_, ?_⟩, fun c hcm => ?_⟩
    · exact (sb.2 _ D.TIz).trans (hk _ _ D.TIz D.TITO D.TIi1 D.TIi2 hTI)
    · exact (sb.2 _ D.TOz).trans TO'
    · obtain ⟨o, ho, r⟩ := h1'
      exact ⟨o, (sb.2 _ D.i1z).trans ho, r⟩
    · exact h2'.1.at fun o q => (sb.2 _ D.i2z).trans q
    · have hlt : c < s.heap.objs.size := by
        have e' : c = zi ∨ c = TI ∨ c = TO ∨ c = i1 ∨ c = i2 := by simpa using hcm
        rcases e' with q | q | q | q | q
        · rw [q]; exact hzl
        · rw [q]; exact Heap.lt_size hTI
        · rw [q]; exact Heap.lt_size hTO
        · rw [q]; obtain ⟨_, e1, _⟩ := h1; exact Heap.lt_size e1
        · rw [q]; obtain ⟨_, e2, _⟩ := h2; exact Heap.lt_size e2
      rw [upd_ne (Nat.ne_of_lt hlt)]
      exact (hf c hcm).1
  done := by
    intro X hP hw hK hc i pins s σ H E I hf st hg
    subst hP hw hK
    obtain ⟨hz, hTI, ⟨x0, y0, hTO⟩, h1, h2⟩ := st
    obtain ⟨hi1, ys, hqy, hi2, hend⟩ := hg
    obtain ⟨its2, rv2, p2, _⟩ := I.tuple hqy
    have l2 := rv2.length
    have D1 : Draws X.prog X.w X.A.in1 i1 [i1] z.cps.size (fun i v => ∃ c u, z.cps[i]? = some c ∧ v = .str ⟨#[c]⟩ u) (fun i h => h.IsStrIter i1 "str_ascii_iterator" z tz i) := Draws.strAscii (A := X.A.in1) (show X.A.in1.handled = none from I.ok.hd hc) i1 z tz
    have D2 : Draws X.prog X.w X.A.in1 i2 [i2, b] its2.toArray.size (fun i v => its2.toArray[i]? = some v) (fun i h => h.IsTupleIter i2 b i ∧ h.IsTuple b its2.toArray) := drawsTuple (A := X.A.in1) (show X.A.in1.handled = none from I.ok.hd hc) i2 b D.l1i2 _
    have S : ZipSep2 zi TI TO i1 i2 [i1] [i2, b] :=
      ⟨D.TIz, D.TOz, D.TITO, D.TIi1, by simp, by simpa using D.i1z.symm, by simpa using D.TOi1, D.TIi2, by simp, by simpa using ⟨D.i2z.symm, D.l1z.symm⟩, by simpa using ⟨D.TOi2, D.l1TO.symm⟩, by simpa using ⟨D.i12, D.l1i1.symm⟩, by simpa using D.i12.symm⟩
    refine wpAny_pyNext_zipD2_end S D1 D2 hz hTI hTO h1 ⟨h2, p2⟩ hi1 (by rw [List.size_toArray]; omega) (hend.imp Eq.symm fun q => by rw [List.size_toArray]; omega) fun h' tk hk => ⟨rfl, I.turnedL (t' := tk) (ch := [zi, TI, TO, i1, i2]) (fun c o hb q =>
      hk c o (fun q' => hb (by simp [q'])) (fun q' => hb (by simp [q'])) (fun q' => hb (by simp [q'])) (fun q' => hb (by simp [q'])) q) hf⟩
  self := fun A i s Q E st h => wpAny_pyIter_zip st.1 h
abbrev zsH1 (h : Heap) (z : Str) (t : Tok) : Heap := h.push { cls := .type "str_ascii_iterator", data := .fields #[.str z t, .int 0 0] }
abbrev zsH2 (h : Heap) (z : Str) (t : Tok) (l2 : Addr) : Heap := (zsH1 h z t).push { cls := .type "tuple_iterator", data := .fields #[.ref l2, .int 0 0] }
abbrev zsH3 (h : Heap) (z : Str) (t : Tok) (l2 : Addr) : Heap := (zsH2 h z t l2).push { cls := .type "tuple", data := .seq #[.ref h.objs.size, .ref (zsH1 h z t).objs.size] }
abbrev zsH4 (h : Heap) (z : Str) (t : Tok) (l2 : Addr) : Heap := (zsH3 h z t l2).push { cls := .type "tuple", data := .seq #[.none, .none] }
abbrev zsH5 (h : Heap) (z : Str) (t : Tok) (l2 : Addr) : Heap := (zsH4 h z t l2).push { cls := .type "zip", data := .fields #[.none, .bool false, .bool false, .ref (zsH2 h z t l2).objs.size, .ref (zsH3 h z t l2).objs.size] }
theorem meets_zipST_new (z : Str) (t : Tok) (l2 : Addr) (ys : Array Value) (ha : z.cps.all (· < 128) = true) :
    Meets (Builtin.«zip.__new__» ⟨[.type "zip", .str z t, .ref l2], []⟩) (fun _ R s => s.heap.IsTuple l2 ys ∧
      R (.ok (.ret (.ref (zsH4 s.heap z t l2).objs.size))) { s with heap := zsH5 s.heap z t l2 }) :=
  .of_wp fun prog w A R s h => by
    obtain ⟨hp, g, d, tk, os⟩ := s; obtain ⟨hl2, h⟩ := h
    have hsub := sub_zip
    have hL2 : Heap.IsTuple (Shared.heap ⟨hp.push { cls := .type "str_ascii_iterator", data := .fields #[.str z t, .int 0 0] }, g, d, tk, os⟩) l2 ys := Heap.IsTuple.push hl2 _
    wp_walk using wpAny_pyIter_ascii ha, wpAny_pyIter_tuple hL2
    exact ⟨_, rfl, h⟩

section
variable {prog : Program} {w : World} {A : Around} {E : Value → Shared → Prop} {s : Shared}
theorem call_zipST {z : Str} {t : Tok} {l2 : Addr} {ys : Array Value} {Q : Value → Shared → Prop} (ha : z.cps.all (· < 128) = true) (hl2 : s.heap.IsTuple l2 ys)
    (h : ∀ h', IsZip h' (s.heap.objs.size + 4) (s.heap.objs.size + 2) (s.heap.objs.size + 3) .none → IsPair h' (s.heap.objs.size + 2) (.ref s.heap.objs.size) (.ref (s.heap.objs.size + 1)) →
      IsPair h' (s.heap.objs.size + 3) .none .none → h'.IsStrIter s.heap.objs.size "str_ascii_iterator" z t 0 → h'.IsTupleIter (s.heap.objs.size + 1) l2 0 → h'.objs.size = s.heap.objs.size + 5 →
      (∀ c o, s.heap.get? c = some o → h'.get? c = some o) → Q (.ref (s.heap.objs.size + 4)) { s with heap := h' }) :
    wpAny (model prog w) A (call (.type "zip") [.str z t, .ref l2]) Q E s := by
  refine callType_new F.called_zip (by decide) (F.typeCall_zip_2 _ _) (F.newCall_zip_2 _ _) (fun obj => F.args_object_init_3 obj _ _) F.entry_zip_new
    (meets_zipST_new z t l2 ys ha) ⟨hl2, ?_⟩
  have z1 : (zsH1 s.heap z t).objs.size = s.heap.objs.size + 1 := Heap.size_push ..
  have z2 : (zsH2 s.heap z t l2).objs.size = s.heap.objs.size + 2 := by rw [Heap.size_push, z1]
  have z3 : (zsH3 s.heap z t l2).objs.size = s.heap.objs.size + 3 := by rw [Heap.size_push, z2]
  have z4 : (zsH4 s.heap z t l2).objs.size = s.heap.objs.size + 4 := by rw [Heap.size_push, z3]
  have z5 : (zsH5 s.heap z t l2).objs.size = s.heap.objs.size + 5 := by rw [Heap.size_push, z4]
  have g5 : (zsH5 s.heap z t l2).get? (zsH4 s.heap z t l2).objs.size = some _ := Heap.get?_push_size _ rfl
  have g4 : (zsH5 s.heap z t l2).get? (zsH3 s.heap z t l2).objs.size = some _ := Heap.get?_push_of_some _ (Heap.get?_push_size _ rfl)
  have g3 : (zsH5 s.heap z t l2).get? (zsH2 s.heap z t l2).objs.size = some _ := Heap.get?_push_of_some _ (Heap.get?_push_of_some _ (Heap.get?_push_size _ rfl))
  have g2 : (zsH5 s.heap z t l2).get? (zsH1 s.heap z t).objs.size = some _ := Heap.get?_push_of_some _ (Heap.get?_push_of_some _ (Heap.get?_push_of_some _ (Heap.get?_push_size _ rfl)))
  have g1 : (zsH5 s.heap z t l2).get? s.heap.objs.size = some _ := Heap.get?_push_of_some _ (Heap.get?_push_of_some _ (Heap.get?_push_of_some _ (Heap.get?_push_of_some _ (Heap.get?_push_size _ rfl))))
  show _ ∧ _
  rw [z2, z3, z4] at g5
  rw [z1, z2] at g3
  rw [z3] at g4
  rw [z1] at g2
  rw [z4]
  exact ⟨⟨_, g5, rfl⟩, h _ g5 g3 g4 ⟨_, g1, rfl, rfl⟩ ⟨_, g2, rfl, rfl⟩ z5 fun c o x =>
    Heap.get?_push_of_some _ (Heap.get?_push_of_some _ (Heap.get?_push_of_some _ (Heap.get?_push_of_some _ (Heap.get?_push_of_some _ x))))⟩
end
def kZip (K : PySem.W.Frag) (R : It → Hp → Prop) (vs : List V) (H : Hp) : Prop :=
  (∃ a b xs ys, vs = [.ref a, .ref b] ∧ SqL K H a xs ∧ SqL K H b ys ∧ R (Itz K a b) H) ∨ ((∃ a b xs ys, vs = [.ref a, .ref b] ∧ SqT K H a xs ∧ SqT K H b ys ∧ R (RZ.ItzT K a b) H) ∨
    ∃ z b ys, vs = [.str z, .ref b] ∧ z.cps.all (· < 128) = true ∧ SqT K H b ys ∧ R (ItzST K z b) H)
def iZipG (K : PySem.W.Frag) (ta : TA) : TI := fun σ H R => ta σ H fun vs H1 => kZip K R vs H1
theorem r_iZip {K : PySem.W.Frag} {ta : TA} {σ : L2.St} {H : Hp} {R : It → Hp → Prop} (h : ta σ H fun vs H1 => kZip K R vs H1) : iZipG K ta σ H R := h
theorem r_zipL {K : PySem.W.Frag} {H : Hp} {R : It → Hp → Prop} {a b : Addr} {xs ys : List V} (h1 : SqL K H a xs) (h2 : SqL K H b ys) (q : R (Itz K a b) H) : kZip K R [.ref a, .ref b] H := .inl ⟨a, b, xs, ys, rfl, h1, h2, q⟩
theorem r_zipT {K : PySem.W.Frag} {H : Hp} {R : It → Hp → Prop} {a b : Addr} {xs ys : List V} (h1 : SqT K H a xs) (h2 : SqT K H b ys) (q : R (RZ.ItzT K a b) H) : kZip K R [.ref a, .ref b] H := .inr (.inl ⟨a, b, xs, ys, rfl, h1, h2, q⟩)
theorem r_zipST {K : PySem.W.Frag} {H : Hp} {R : It → Hp → Prop} {z : Str} {b : Addr} {ys : List V} (h1 : z.cps.all (· < 128) = true) (h2 : SqT K H b ys) (q : R (ItzST K z b) H) : kZip K R [.str z, .ref b] H := .inr (.inr ⟨z, b, ys, rfl, h1, h2, q⟩)
theorem pi_zipG {X : Cx} {e e2 : Expr} {ta : TA} {p pos tpos : Pos} {elts : List Expr} {kk : Nat} (hg : Gl X "zip") (hm : X.mg "zip" = none) (ha : PA X [e, e2] ta)
    (hs : starEach [e, e2] X.env = (false, eval e X.env) :: starEach [e2] X.env := by rfl) (hpl : (backTo pos (starEach [e2] X.env)).any (·.1) = false := by rfl) :
    PI X (.Tuple elts kk tpos) (.Call (.Name "zip" p) [e, e2] [] pos) (iZipG X.K ta) := by
  refine ⟨fun pins s σ H R I h => ?_⟩
  refine PyProof.Rows.Call_ (ld_blt I hg hm PyProof.Rows.boot_zip (PyProof.Rows.callWith_type1 (thn (ha.run pos pins s σ H _ I h) fun us s1 ⟨vs, H1, I1, r1, q1⟩ => ?_) hs hpl))
  have far : ∀ c, c ∈ [s1.heap.objs.size + 4, s1.heap.objs.size + 2, s1.heap.objs.size + 3, s1.heap.objs.size, s1.heap.objs.size + 1] → FpOk X pins H1 c := fun c hcm => by
    have hle : s1.heap.objs.size ≤ c := by
      simp only [List.mem_cons, List.not_mem_nil, or_false] at hcm
      rcases hcm with z | z | z | z | z <;> (subst z; first | exact Nat.le_add_right _ _ | exact Nat.le_refl _)
    exact I1.fpOk hle (I1.hok.fresh hle)
  rcases q1 with ⟨a, b, xs, ys, ex, hqx, hqy, q⟩ | ⟨a, b, xs, ys, ex, hqx, hqy, q⟩ | ⟨z, b, ys, ex, hz0, hqy, q⟩
  · subst ex
    cases r1 with
    | cons r rr =>
    cases rr with
    | cons r' rr =>
    cases rr
    cases r
    cases r'
    obtain ⟨its, rv, p1, _⟩ := I1.list hqx
    obtain ⟨its2, rv2, p2, _⟩ := I1.list hqy
    refine call_zip_2 p1.isList p2.isList fun h' hz hTI hTO h1 h2 hsz hk => wpAny_pyIter_zip hz ?_
    have I2 : Inv X pins σ H1 { s1 with heap := h' } := I1.kept (t' := s1.toks) hk
    exact ⟨s1.heap.objs.size + 4, [s1.heap.objs.size + 4, s1.heap.objs.size + 2, s1.heap.objs.size + 3, s1.heap.objs.size, s1.heap.objs.size + 1], _, _, H1, rfl, I2, turn_zip (PySem.W.ktu_apart s1.heap.objs.size a b p1.lt p2.lt), ⟨hz, hTI, ⟨_, _, hTO⟩, h1, h2⟩, far, q⟩
  · subst ex
    cases r1 with
    | cons r rr =>
    cases rr with
    | cons r' rr =>
    cases rr
    cases r
    cases r'
    obtain ⟨its, rv, p1, _⟩ := I1.tuple hqx
    obtain ⟨its2, rv2, p2, _⟩ := I1.tuple hqy
    obtain ⟨o1, ho1, _⟩ := id p1
    obtain ⟨o2, ho2, _⟩ := id p2
    refine RZ.call_zipT (show s1.heap.IsTuple a its.toArray from p1) (show s1.heap.IsTuple b its2.toArray from p2) fun h' hz hTI hTO h1 h2 hsz hk => wpAny_pyIter_zip hz ?_
    have I2 : Inv X pins σ H1 { s1 with heap := h' } := I1.kept (t' := s1.toks) hk
    exact ⟨s1.heap.objs.size + 4, [s1.heap.objs.size + 4, s1.heap.objs.size + 2, s1.heap.objs.size + 3, s1.heap.objs.size, s1.heap.objs.size + 1], _, _, H1, rfl, I2, RZ.turn_zipT (PySem.W.ktu_apart s1.heap.objs.size a b (Heap.lt_size ho1) (Heap.lt_size ho2)), ⟨hz, hTI, ⟨_, _, hTO⟩, h1, h2⟩, far, q⟩
  · subst ex
    cases r1 with
    | cons r rr =>
    cases rr with
    | cons r' rr =>
    cases rr
    obtain ⟨u, rfl⟩ := r
    cases r'
    obtain ⟨its2, rv2, p2, _⟩ := I1.tuple hqy
    obtain ⟨o2, ho2, _⟩ := id p2
    refine call_zipST hz0 (show s1.heap.IsTuple b its2.toArray from p2) fun h' hz hTI hTO h1 h2 hsz hk => wpAny_pyIter_zip hz ?_
    have I2 : Inv X pins σ H1 { s1 with heap := h' } := I1.kept (t' := s1.toks) hk
    exact ⟨s1.heap.objs.size + 4, [s1.heap.objs.size + 4, s1.heap.objs.size + 2, s1.heap.objs.size + 3, s1.heap.objs.size, s1.heap.objs.size + 1], _, _, H1, rfl, I2, turn_zipST (PySem.W.ktu_apart s1.heap.objs.size b b (Heap.lt_size ho2) (Heap.lt_size ho2)), ⟨hz, hTI, ⟨_, _, hTO⟩, h1, h2⟩, far, q⟩
theorem walk_zipST {K : PySem.W.Frag} {z : Str} {b : Addr} {ys : List V} {n : Nat} (hn : n = min z.cps.size ys.length) : Walk (ItzST K z b) n (fun H => SqT K H b ys) (YPair (fun i => z.cps[i]?.map fun c => V.str ⟨#[c]⟩) (fun i => ys[i]?)) where
  goes := fun i H hi h => ⟨by omega, ys, h, by omega⟩
  stops := fun H h => ⟨by omega, ys, h, by omega, by omega⟩
  yields := fun i H v H' hi h y => by
    obtain ⟨T, c, y, rfl, hT, rfl, hc, hy⟩ := y
    exact ⟨T, .str ⟨#[c]⟩, y, rfl, hT, rfl, by simp [hc], hy ys h⟩

/-! ### methods, classes -/
def MethAt (K : PySem.W.Frag) (c m q : Str) (st : Stmt) : Prop := ∃ f fd, FunD K m q (defArgs st) (defBody st) (defScope st) [] [] f fd ∧ L2.Meth K (He.ga K c) m f ∧ Cls K (He.ga K c)
def InitAt (K : PySem.W.Frag) (mg : Str → Option Value) (c q : Str) (st : Stmt) : Prop := ∃ f fd, FunD K "__init__" q (defArgs st) (defBody st) (defScope st) [] [] f fd ∧ Mk K (He.ga K c) f ∧ mg c = some (.ref (He.ga K c))
structure Mcl (P : Program) (w : World) (K : PySem.W.Frag) (mg : Str → Option Value) (base : Heap) (CX : CXT) (k : Nat) (c m : Str) (ps : List Str) (sp : Sp) : Prop where
  ex : ∃ f fd, FnOk P w K mg base CX k f fd ps sp ∧ L2.Meth K (He.ga K c) m f ∧ Cls K (He.ga K c) ∧ Binds K fd ps []
structure Mak (P : Program) (w : World) (K : PySem.W.Frag) (mg : Str → Option Value) (base : Heap) (CX : CXT) (k : Nat) (c : Str) (ps : List Str) (sp : Sp) : Prop where
  ex : ∃ f fd, FnOk P w K mg base CX k f fd ps sp ∧ Mk K (He.ga K c) f ∧ mg c = some (.ref (He.ga K c)) ∧ Binds K fd ps []
theorem mcl_mk {P : Program} {w : World} {K : PySem.W.Frag} {mg : Str → Option Value} {base : Heap} {CX : CXT} {k : Nat} {c m q : Str} {st : Stmt} {N ps : List Str} {sp : Sp} (D : MethAt K c m q st) (S : FnScope N ps (defScope st)) (len : ∀ vs H Q E, sp vs H Q E → vs.length = ps.length)
    (hb : ∀ (kV doc pm : Value) (an : Option Addr) (cdv ct : Value) (us : List Value), us.length = ps.length → bindArgs (PySem.W.fnOf m q (defArgs st) (defBody st) (defScope st) .none kV doc pm an cdv ct) ⟨us, []⟩ = pure (ps.zip us))
    (body : ∀ (f : Addr) (cdv : Value) (A : Around) (outer : List Env) (s : Shared) (H : Hp) (vs : List V) (Q : VK) (E : XK), Room k (A.deeper (PyProof.Rows.envOfC q (defScope st) s.heap.objs.size f cdv)) → sp vs H Q E →
      ∃ t, PSs (cxOf CX P w K mg base N q (defScope st) f cdv A outer s H E) (defBody st) t ∧ t ⟨fun _ H' => Q .non H', Q, fun _ _ => False, fun _ _ => False⟩ (start N vs) H) : Mcl P w K mg base CX (k + 1) c m ps sp := by
  obtain ⟨f, fd, F, g, c⟩ := D
  exact ⟨f, fd, F.ok S len fun cdv A outer s H vs Q E hr h => body f cdv A outer s H vs Q E hr h, g, c, F.bindsN hb⟩
theorem mak_mk {P : Program} {w : World} {K : PySem.W.Frag} {mg : Str → Option Value} {base : Heap} {CX : CXT} {k : Nat} {c q : Str} {st : Stmt} {N ps : List Str} {sp : Sp} (D : InitAt K mg c q st) (S : FnScope N ps (defScope st)) (len : ∀ vs H Q E, sp vs H Q E → vs.length = ps.length)
    (hb : ∀ (kV doc pm : Value) (an : Option Addr) (cdv ct : Value) (us : List Value), us.length = ps.length → bindArgs (PySem.W.fnOf "__init__" q (defArgs st) (defBody st) (defScope st) .none kV doc pm an cdv ct) ⟨us, []⟩ = pure (ps.zip us))
    (body : ∀ (f : Addr) (cdv : Value) (A : Around) (outer : List Env) (s : Shared) (H : Hp) (vs : List V) (Q : VK) (E : XK), Room k (A.deeper (PyProof.Rows.envOfC q (defScope st) s.heap.objs.size f cdv)) → sp vs H Q E →
      ∃ t, PSs (cxOf CX P w K mg base N q (defScope st) f cdv A outer s H E) (defBody st) t ∧ t ⟨fun _ H' => Q .non H', Q, fun _ _ => False, fun _ _ => False⟩ (start N vs) H) : Mak P w K mg base CX (k + 1) c ps sp := by
  obtain ⟨f, fd, F, g, c⟩ := D
  exact ⟨f, fd, F.ok S len fun cdv A outer s H vs Q E hr h => body f cdv A outer s H vs Q E hr h, g, c, F.bindsN hb⟩
section
variable {X : Cx} {CX : CXT} {k : Nat} {c m : Str} {ps : List Str} {sp : Sp} {E : XK} {p apos pos : Pos} {o e : Expr} {es : List Expr} {ta : TE} {t : TA}
theorem pe_methC {pl : Sem Bool} (he : PE X o ta) (M : Mcl X.prog X.w X.K X.mg X.base CX k c m ps sp) (hr : Room k X.A) (hx : Passes CX X E) (ha : PA X (e :: es) t)
    (hst : starEach (e :: es) X.env = (false, eval e X.env) :: starEach es X.env := by rfl) (hpl : (backTo pos (starEach es X.env)).any (·.1) = false := by rfl)
    (ht : eval (.Call (.Attribute o m apos) (e :: es) [] pos) X.env = (do
      let ov ← eval o X.env
      standAt apos.atName
      let (f, first) ← holding [ov] (getMethod ov m pl)
      callWith pos f first (backTo pos (starEach (e :: es) X.env)) (backToKw pos (keywordEach [] X.env))) := by rfl) :
    PE X (.Call (.Attribute o m apos) (e :: es) [] pos) (tMethG (He.ga X.K c) m sp E ta t) := by
  obtain ⟨f, fd, F, g, cl, b⟩ := M.ex
  refine ⟨fun pins s σ H Q I h => (pe_meth (pl := pl) he cl g F hr b .nil hx ha hst hpl ht).run pins s σ H Q I ?_⟩
  show ta σ H fun x H1 => ∃ a dx fs, x = .ref a ∧ H1 a = some (.ins (He.ga X.K c) dx fs) ∧ fs.lookup m = none ∧ t σ H1 fun vs H2 => sp (x :: (vs ++ [])) H2 Q E
  simp only [List.append_nil]
  exact h
theorem pe_methC0 {pl : Sem Bool} (he : PE X o ta) (M : Mcl X.prog X.w X.K X.mg X.base CX k c m ps sp) (hr : Room k X.A) (hx : Passes CX X E)
    (ht : eval (.Call (.Attribute o m apos) [] [] pos) X.env = (do
      let ov ← eval o X.env
      standAt apos.atName
      let (f, first) ← holding [ov] (getMethod ov m pl)
      callWith pos f first (backTo pos (starEach [] X.env)) (backToKw pos (keywordEach [] X.env))) := by rfl) :
    PE X (.Call (.Attribute o m apos) [] [] pos) (tMethG (He.ga X.K c) m sp E ta tNil) := by
  obtain ⟨f, fd, F, g, cl, b⟩ := M.ex
  refine ⟨fun pins s σ H Q I h => (pe_meth0 (pl := pl) he cl g F hr b .nil hx ht).run pins s σ H Q I ?_⟩
  show ta σ H fun x H1 => ∃ a dx fs, x = .ref a ∧ H1 a = some (.ins (He.ga X.K c) dx fs) ∧ fs.lookup m = none ∧ tNil σ H1 fun vs H2 => sp (x :: (vs ++ [])) H2 Q E
  simp only [List.append_nil]
  exact h
theorem pe_makeC (M : Mak X.prog X.w X.K X.mg X.base CX k c ps sp) (hr : Room (k + 1) X.A) (hg : Gl X c) (hx : Passes CX X E) (ha : PA X (e :: es) t)
    (hdb : (c == ("__debug__" : Str)) = false := by decide) (he : starEach (e :: es) X.env = (false, eval e X.env) :: starEach es X.env := by rfl) (hpl : (backTo pos (starEach es X.env)).any (·.1) = false := by rfl) :
    PE X (.Call (.Name c p) (e :: es) [] pos) (tMakeG (He.ga X.K c) sp E t) := by
  obtain ⟨f, fd, F, g, gm, b⟩ := M.ex
  refine ⟨fun pins s σ H Q I h => (pe_make g F hr hg gm b .nil hx ha hdb he hpl).run pins s σ H Q I ?_⟩
  show t σ H fun vs H1 => ∀ x dx, H1 x = none → H1 dx = none → dx ≠ x → sp (.ref x :: (vs ++ [])) (upd (upd H1 dx (.own x)) x (.ins (He.ga X.K c) dx [])) (fun v H2 => v = .non ∧ Q (.ref x) H2) E
  simp only [List.append_nil]
  exact h
theorem pe_makeC0 (M : Mak X.prog X.w X.K X.mg X.base CX k c ps sp) (hr : Room (k + 1) X.A) (hg : Gl X c) (hx : Passes CX X E) (hdb : (c == ("__debug__" : Str)) = false := by decide) :
    PE X (.Call (.Name c p) [] [] pos) (tMakeG (He.ga X.K c) sp E tNil) := by
  obtain ⟨f, fd, F, g, gm, b⟩ := M.ex
  exact pe_make0 g F hr hg gm b .nil hx hdb
end
section
variable {H : Hp} {Q : VK} {C : Addr} {sp : Sp} {E : XK} {ta : TE} {t : TA} {σ : L2.St} {m : Str} {vs : List V} {x : V}
theorem r_meth (h : ta σ H fun x H1 => kMeth C m sp E t σ Q x H1) : tMethG C m sp E ta t σ H Q := h
theorem r_kMeth {a dx : Addr} {fs : List (Str × V)} (h : H a = some (.ins C dx fs)) (l : fs.lookup m = none) (q : t σ H fun vs H2 => sp (.ref a :: vs) H2 Q E) : kMeth C m sp E t σ Q (.ref a) H := ⟨a, dx, fs, rfl, h, l, q⟩
theorem r_make (h : t σ H fun vs H1 => kMake C sp E vs H1 Q) : tMakeG C sp E t σ H Q := h
theorem Fr.made {H : Hp} {x dx C : Addr} (h1 : H x = none) (h2 : H dx = none) (ne : dx ≠ x) : Fr [] H (upd (upd H dx (.own x)) x (.ins C dx [])) :=
  (Fr.new (by rw [upd_ne (fun z => ne z.symm)]; exact h1)).step0 (Fr.new h2)
theorem r_kMake (q : ∀ x dx H', H x = none → Fr [] H H' → H' x = some (.ins C dx []) → sp (.ref x :: vs) H' (fun v H2 => v = .non ∧ Q (.ref x) H2) E) : kMake C sp E vs H Q := fun x dx hx hdx ne => q x dx _ hx (.made hx hdx ne) upd_same
end
/-! ### a dict written in the program, its keys texts -/
/-- the dict at d, with these keys and values -/
structure WD (K : PySem.W.Frag) (w : World) (d : Addr) (kvs : List (Str × V)) : Prop where
  kd : ∃ es n, KDict K w d es n
  look : ∀ z : Str, ∃ r, PySem.W.nsIn K d z = some r ∧ ((∃ v u, kvs.lookup z = some v ∧ r = some u ∧ RelV v u) ∨ (kvs.lookup z = none ∧ r = none))
def rInK (K : PySem.W.Frag) (w : World) (f : Bool → Bool) : R2 := fun x y H Q => ∃ (z : Str) (d : Addr) (kvs : List (Str × V)), x = .str z ∧ y = .ref d ∧ WD K w d kvs ∧ Q (.bl (f (kvs.lookup z).isSome)) H
section
variable {X : Cx}
theorem op_inK : OpR X (compareOp .In) (rInK X.K X.w id) := by
  intro pins s σ H x y v u Q I rx ry h
  obtain ⟨z, d, kvs, rfl, rfl, W, q⟩ := h
  obtain ⟨es, n, D⟩ := W.kd
  obtain ⟨r, e, l⟩ := W.look z
  refine op_in_kd D pins s σ H _ _ v u Q I rx ry ⟨z, r, rfl, rfl, e, ?_⟩
  rcases l with ⟨v0, u0, l, rfl, _⟩ | ⟨l, rfl⟩ <;> (rw [l] at q; exact q)
theorem op_niK : OpR X (compareOp .NotIn) (rInK X.K X.w not) := by
  intro pins s σ H x y v u Q I rx ry h
  obtain ⟨z, d, kvs, rfl, rfl, W, q⟩ := h
  obtain ⟨es, n, D⟩ := W.kd
  obtain ⟨r, e, l⟩ := W.look z
  refine op_notIn_kd D pins s σ H _ _ v u Q I rx ry ⟨z, r, rfl, rfl, e, ?_⟩
  rcases l with ⟨v0, u0, l, rfl, _⟩ | ⟨l, rfl⟩ <;> (rw [l] at q; exact q)
end
section
variable {K : PySem.W.Frag} {w : World} {H : Hp} {Q : VK} {d : Addr} {kvs : List (Str × V)} {z : Str}
theorem r_inK {f : Bool → Bool} {b : Bool} (W : WD K w d kvs) (e : f (kvs.lookup z).isSome = b) (q : Q (.bl b) H) : rInK K w f (.str z) (.ref d) H Q := ⟨z, d, kvs, rfl, rfl, W, by rw [e]; exact q⟩
theorem r_ixK {v : V} (W : WD K w d kvs) (l : kvs.lookup z = some v) (q : Q v H) : rIxD K w (.ref d) (.str z) H Q := by
  obtain ⟨es, n, D⟩ := W.kd
  obtain ⟨r, e, h⟩ := W.look z
  rcases h with ⟨v0, u0, l0, rfl, r0⟩ | ⟨l0, _⟩
  · rw [l] at l0
    cases l0
    exact ⟨d, z, v, rfl, rfl, ⟨es, n, u0, D.at_, D.lit, e, r0⟩, q⟩
  · rw [l] at l0
    cases l0
/-- d.get(z) -/
def kGet (K : PySem.W.Frag) (w : World) (ty : TE) (σ : L2.St) (Q : VK) (x : V) (H : Hp) : Prop := ∃ d kvs, x = .ref d ∧ WD K w d kvs ∧ ty σ H fun y H2 => ∃ z, y = .str z ∧ Q ((kvs.lookup z).getD .non) H2
def tGetK (K : PySem.W.Frag) (w : World) (td ty : TE) : TE := fun σ H Q => td σ H fun x H1 => kGet K w ty σ Q x H1
theorem r_getK {td ty : TE} {σ : L2.St} (h : td σ H fun x H1 => kGet K w ty σ Q x H1) : tGetK K w td ty σ H Q := h
theorem r_kGet {ty : TE} {σ : L2.St} (W : WD K w d kvs) (h : ty σ H fun y H2 => ∃ z, y = .str z ∧ Q ((kvs.lookup z).getD .non) H2) : kGet K w ty σ Q (.ref d) H := ⟨d, kvs, rfl, W, h⟩
end
theorem pe_bmGK {X : Cx} {o e : Expr} {apos cpos : Pos} {td ty : TE} (ho : PE X o td) (he : PE X e ty) (m : M1 X o "get" apos e cpos) : PE X (.Call (.Attribute o "get" apos) [e] [] cpos) (tGetK X.K X.w td ty) := by
  refine ⟨fun pins s σ H Q I h => ?_⟩
  refine wpAny_Call_method m.base m.few m.line PySem.F.plainAttrs_dict PySem.F.slot_dict_get PySem.F.type_dict_get (thn (ho.run pins s σ H _ I h) fun u s1 ⟨x, H1, I1, rx, d, kvs, ex, W, q1⟩ => ?_)
  subst ex
  obtain rfl : u = Value.ref d := rx
  obtain ⟨es, n, D⟩ := W.kd
  have t1 := kd_type D I1
  refine ⟨t1, fun b q => ?_, ?_⟩
  · cases q
    exact ⟨_, I1.kIn _ _ D.at_, rfl⟩
  rw [m.trees]
  refine Calls.callWith_builtin rfl (Calls.evalArgs_plain (Calls.spliced_cons (thn (he.run pins s1 σ H1 _ I1 q1) fun iv s2 ⟨y, H2, I2, ry, z, ey, q2⟩ => Calls.spliced_nil ?_)))
  subst ey
  obtain ⟨t, rfl⟩ := ry
  obtain ⟨r, e, h⟩ := W.look z
  have hm := PySem.W.mapOf_K (prog := X.prog) (w := X.w) I2.kIn D.at_ D.lit
  refine call_meetsIn PySem.F.slot_dict_get (kd_type D I2) PySem.F.entry_dict_get (PySem.F.args_dict_get_2 _ _) (meets_dict_get (strKind X.prog X.w) d (strKind_is X.prog X.w z t) D.low) ⟨_, hm, ?_⟩
  rw [PySem.W.find_K D.at_ e]
  rcases h with ⟨v0, u0, l0, rfl, r0⟩ | ⟨l0, rfl⟩
  · rw [l0] at q2
    exact ⟨_, H2, I2.tok _, r0, q2⟩
  · rw [l0] at q2
    exact ⟨.non, H2, I2.tok _, (rfl : Value.none = Value.none), q2⟩
theorem lookup_mapV {α β : Type} (f : α → β) {z : Str} : ∀ l : List (Str × α), (l.map fun q => (q.1, f q.2)).lookup z = (l.lookup z).map f
  | [] => rfl
  | q :: l => by
    rw [List.map_cons, List.lookup_cons, List.lookup_cons]
    cases (z == q.1) with
    | true => rfl
    | false => exact lookup_mapV f l
theorem lookup_inL {α : Type} {z : Str} {a : α} : ∀ {l : List (Str × α)}, l.lookup z = some a → (z, a) ∈ l
  | [], h => by cases h
  | q :: l, h => by
    rw [List.lookup_cons] at h
    cases e : (z == q.1) with
    | true =>
      rw [e] at h
      have e2 := beq_iff_eq.mp e
      have e3 : q.2 = a := Option.some.inj h
      rw [e2, ← e3]
      exact List.mem_cons_self ..
    | false =>
      rw [e] at h
      exact List.mem_cons_of_mem _ (lookup_inL h)
/-- what the head tells -/
theorem wd_of {K : PySem.W.Frag} {w : World} {a : Addr} {kvs : List (Str × He.Dv)} (hk : He.dicW K a = some (He.keysIn w.params (kvs.map (·.1)))) (hv : He.valsB K a kvs = true) (nd : (kvs.map (·.1)).Nodup) : WD K w a (kvs.map fun q => (q.1, q.2.v K)) where
  kd := He.dicW_ok hk
  look := fun z => by
    obtain ⟨es, n, D⟩ := He.dicW_ok hk
    have hlk := D.at_
    have hks : es.toList.map He.keyOf = He.keysIn w.params (kvs.map (·.1)) := by
      unfold He.dicW at hk
      rw [hlk] at hk
      dsimp only at hk
      split at hk
      · exact Option.some.inj hk
      · cases hk
    cases l : (kvs.map fun q => (q.1, q.2.v K)).lookup z with
    | some v =>
      have : ∃ q, q ∈ kvs ∧ q.1 = z ∧ q.2.v K = v := by
        clear hk hv nd hks
        induction kvs with
        | nil => cases l
        | cons q r ih =>
          rw [List.map_cons, List.lookup_cons] at l
          by_cases e : z = q.1
          · rw [beq_iff_eq.mpr e] at l
            exact ⟨q, List.mem_cons_self .., e.symm, Option.some.inj l⟩
          · rw [beq_eq_false_iff_ne.mpr e] at l
            obtain ⟨q2, h1, h2⟩ := ih l
            exact ⟨q2, List.mem_cons_of_mem _ h1, h2⟩
      obtain ⟨q, h1, h2, h3⟩ := this
      obtain ⟨u, h4, h5⟩ := He.valsB_ok hv h1
      subst h2 h3
      exact ⟨some u, h4, .inl ⟨_, u, rfl, rfl, h5⟩⟩
    | none =>
      have hz : ∀ e ∈ es.toList, e.key.isStr z = false ∧ e.refKey = false := by
        intro e he
        have hm : He.keyOf e ∈ He.keysIn w.params (kvs.map (·.1)) := by rw [← hks]; exact List.mem_map_of_mem he
        obtain ⟨k, hk1, hk2⟩ := List.mem_map.mp hm
        unfold He.keyOf at hk2
        have ne : k ≠ z := fun q => by
          subst q
          obtain ⟨q, h1, h2⟩ := List.mem_map.mp hk1
          clear hk hv nd hks hm hk1
          induction kvs with
          | nil => cases h1
          | cons p r ih =>
            rw [List.map_cons, List.lookup_cons] at l
            by_cases e : k = p.1
            · rw [beq_iff_eq.mpr e] at l
              cases l
            · rw [beq_eq_false_iff_ne.mpr e] at l
              cases h1 with
              | head => exact e h2.symm
              | tail _ h1 => exact ih l h1
        split at hk2
        · rename_i x t ek
          have e2 := (Prod.mk.inj (Option.some.inj hk2)).1
          subst e2
          constructor
          · rw [ek]
            show (k == z) = false
            simpa using ne
          · unfold DictEntry.refKey
            rw [ek]
        · cases hk2
      refine ⟨none, ?_, .inr ⟨rfl, rfl⟩⟩
      unfold PySem.W.nsIn
      rw [hlk]
      dsimp only
      have f1 : es.toList.find? (·.key.isStr z) = none := List.find?_eq_none.mpr fun e he => by rw [(hz e he).1]; exact Bool.false_ne_true
      have f2 : es.toList.any (·.refKey) = false := List.any_eq_false.mpr fun e he => by rw [(hz e he).2]; exact Bool.false_ne_true
      rw [f1, f2]
      rfl
theorem pe_globR {X : Cx} {x : Str} {d : Addr} {pos : Pos} (hg : Gl X x) (h : X.mg x = some (.ref d)) (hd : (x == ("__debug__" : Str)) = false := by decide) : PE X (.Name x pos) (tC (.ref d)) := pe_glob (v := .ref d) hg h (rfl : Value.ref d = Value.ref d) hd
/-! ### and, or, not as values -/
def kAndT (K : PySem.W.Frag) (tb : TE) (σ : L2.St) (Q : VK) (x : V) (H : Hp) : Prop := ∃ k, TruV K x H k ∧ if k = true then tb σ H Q else Q x H
def kOrT (K : PySem.W.Frag) (tb : TE) (σ : L2.St) (Q : VK) (x : V) (H : Hp) : Prop := ∃ k, TruV K x H k ∧ if k = true then Q x H else tb σ H Q
def kNotT (K : PySem.W.Frag) (Q : VK) (x : V) (H : Hp) : Prop := ∃ k, TruV K x H k ∧ Q (.bl (!k)) H
section
variable {K : PySem.W.Frag} {ta tb : TE} {σ : L2.St} {H : Hp} {Q : VK} {x : V} {b : Bool}
theorem r_andT (h : ta σ H fun x H1 => kAndT K tb σ Q x H1) : tAndT K ta tb σ H Q := h
theorem r_orT (h : ta σ H fun x H1 => kOrT K tb σ Q x H1) : tOrT K ta tb σ H Q := h
theorem r_notT (h : ta σ H fun x H1 => kNotT K Q x H1) : tNotT K ta σ H Q := h
theorem r_kAndB (h : if b = true then tb σ H Q else Q (.bl b) H) : kAndT K tb σ Q (.bl b) H := ⟨b, rfl, h⟩
theorem r_kOrB (h : if b = true then Q (.bl b) H else tb σ H Q) : kOrT K tb σ Q (.bl b) H := ⟨b, rfl, h⟩
theorem r_kNotB (h : Q (.bl (!b)) H) : kNotT K Q (.bl b) H := ⟨b, rfl, h⟩
theorem r_kAnd (t : TruV K x H b) (h : if b = true then tb σ H Q else Q x H) : kAndT K tb σ Q x H := ⟨b, t, h⟩
theorem r_kOr (t : TruV K x H b) (h : if b = true then Q x H else tb σ H Q) : kOrT K tb σ Q x H := ⟨b, t, h⟩
theorem r_kNot (t : TruV K x H b) (h : Q (.bl (!b)) H) : kNotT K Q x H := ⟨b, t, h⟩
end
theorem atI_zero {α : Type} {v : α} {r : List α} : atI (v :: r) 0 = some v := atI_nat (j := 0) rfl
/-! ### the end -/
theorem law_fn {P : Program} {w : World} {K : PySem.W.Frag} {mg : Str → Option Value} {k : Nat} {x p : Str} {st : Stmt} {sp : Sp} {f : Addr} (D : DefAt K mg x st) (hf : mg x = some (.ref f))
    (hb : ∀ (kV doc pm : Value) (an : Option Addr) (cdv ct : Value) (us : List Value), us.length = [p].length → bindArgs (PySem.W.fnOf x x (defArgs st) (defBody st) (defScope st) .none kV doc pm an cdv ct) ⟨us, []⟩ = pure ([p].zip us))
    (C : ∀ base : Heap, Cal P w K mg base CX0 k x [p] sp) :
    ∃ fd : FuncData, (∀ (s : Shared) (v : Value), BindsTo s fd ⟨[v], []⟩ [(p, v)]) ∧ ∀ base : Heap, FnOk P w K mg base CX0 k f fd [p] sp := by
  obtain ⟨f1, fd, F, g⟩ := D
  have e1 : f1 = f := by
    rw [hf] at g
    exact (Value.ref.inj (Option.some.inj g)).symm
  subst e1
  refine ⟨fd, fun s v => FunD.bindsA (ps := [p]) F hb s [v] rfl, fun base => ?_⟩
  obtain ⟨f2, fd2, F2, g2, _, _, o2, d2, s2, lk2⟩ := (C base).ex
  have e2 : f2 = f1 := by
    rw [hf] at g2
    exact (Value.ref.inj (Option.some.inj g2)).symm
  subst e2
  obtain ⟨o1, d1, s1, lk1⟩ := isF_of F
  rw [lk1] at lk2
  have e3 : fd = fd2 := by
    injection lk2 with lk2
    injection lk2 with _ _ lk2
    injection lk2
  subst e3
  exact F2
theorem tab_at {fa : List He.Fa} {fn : List He.DefD} {ts : List He.Tab} {w : World} {K : PySem.W.Frag} (c : He.SaysT fa fn ts w K) (i : Nat) {t : He.Tab} (h : ts[i]? = some t) : He.dicW K (t.1 K) = some (He.keysIn w.params t.2) := by
  have e1 : ts.map (fun t => He.dicW K (t.1 K)) = ts.map fun t => some (He.keysIn w.params t.2) := congrArg (fun z : He.AlT => z.2) c
  have e2 : (ts.map fun t => He.dicW K (t.1 K))[i]? = (ts.map fun t => some (He.keysIn w.params t.2))[i]? := by rw [e1]
  rw [List.getElem?_map, List.getElem?_map, h] at e2
  exact Option.some.inj e2
theorem def_at {K : PySem.W.Frag} {mg : Str → Option Value} {x : Str} {st : Stmt} (h : ∃ fd, FunD K x x (defArgs st) (defBody st) (defScope st) [] [] (He.ga K x) fd) (g : mg x = some (.ref (He.ga K x))) : DefAt K mg x st := by
  obtain ⟨fd, F⟩ := h
  exact ⟨_, fd, F, g⟩
theorem init_at {K : PySem.W.Frag} {mg : Str → Option Value} {c q : Str} {st : Stmt} (h : ∃ fd, FunD K "__init__" q (defArgs st) (defBody st) (defScope st) [] [] (He.ma K (He.ga K c) "__init__") fd) (m : Mk K (He.ga K c) (He.ma K (He.ga K c) "__init__")) (g : mg c = some (.ref (He.ga K c))) : InitAt K mg c q st := by
  obtain ⟨fd, F⟩ := h
  exact ⟨_, fd, F, m, g⟩
theorem meth_at {K : PySem.W.Frag} {c m q : Str} {st : Stmt} (h : ∃ fd, FunD K m q (defArgs st) (defBody st) (defScope st) [] [] (He.ma K (He.ga K c) m) fd) (g : L2.Meth K (He.ga K c) m (He.ma K (He.ga K c) m)) (cl : Cls K (He.ga K c)) : MethAt K c m q st := by
  obtain ⟨fd, F⟩ := h
  exact ⟨_, fd, F, g, cl⟩
end G

namespace G
open PySem PySem.Spec L2
/-! ### dicts on the heap -/
def kDGet (Q : VK) (x y : V) (H : Hp) : Prop := ∃ a v, x = .ref a ∧ DGet H a y (some v) ∧ Q v H
def kDPut (nx : L2.St → Hp → Prop) (σ : L2.St) (v x y : V) (H : Hp) : Prop := ∃ a H4, x = .ref a ∧ DPut H a y v H4 ∧ nx σ H4
def kDisp (p : Addr) (Q : VK) (ps : List (V × V)) (H : Hp) : Prop := H p = some (.dK []) ∧ ∃ kvs : List (Key × V), ps = kvs.map (fun kv => (kV kv.1, kv.2)) ∧ kvs.length ≤ 15 ∧ Q (.ref p) (upd H p (.dK (mergeK [] kvs)))
section
variable {K : PySem.W.Frag} {σ : L2.St} {H : Hp} {Q : VK} {nx bk ct : L2.St → Hp → Prop} {rt : VK} {td ty tv te : TE} {a : Addr} {kvs : List (Key × V)} {v : V} {z : Str} {n : Int} {trs : List (TE × TE)} {R : List (V × V) → Hp → Prop}
theorem r_dget (h : td σ H fun x H1 => ty σ H1 fun y H2 => kDGet Q x y H2) : tDGet td ty σ H Q := h
theorem r_kDGetS (h : Rd H a (.dK kvs)) (e : valV kvs (.inr z) = some v) (q : Q v H) : kDGet Q (.ref a) (.str z) H := ⟨a, v, rfl, .inl ⟨kvs, .inr z, h, rfl, e.symm⟩, q⟩
theorem r_kDGetI (h : Rd H a (.dK kvs)) (e : valV kvs (.inl n) = some v) (q : Q v H) : kDGet Q (.ref a) (.int n) H := ⟨a, v, rfl, .inl ⟨kvs, .inl n, h, rfl, e.symm⟩, q⟩
theorem r_dput (h : tv σ H fun v H1 => td σ H1 fun x H2 => ty σ H2 fun y H3 => kDPut nx σ v x y H3) : sDPut td ty tv ⟨nx, rt, bk, ct⟩ σ H := h
theorem r_kDPutS (h : H a = some (.dK kvs)) (hl : kvs.length < 16777216) (q : ∀ H', Fr [a] H H' → H' a = some (.dK (putK kvs (.inr z) v)) → nx σ H') : kDPut nx σ v (.ref a) (.str z) H :=
  ⟨a, _, rfl, .inl ⟨kvs, .inr z, h, rfl, by rw [sizeLine_eq]; exact hl, rfl⟩, q _ (.chg (by rw [h]; trivial)) upd_same⟩
theorem r_kDPutI (h : H a = some (.dK kvs)) (hl : kvs.length < 16777216) (q : ∀ H', Fr [a] H H' → H' a = some (.dK (putK kvs (.inl n) v)) → nx σ H') : kDPut nx σ v (.ref a) (.int n) H :=
  ⟨a, _, rfl, .inl ⟨kvs, .inl n, h, rfl, by rw [sizeLine_eq]; exact hl, rfl⟩, q _ (.chg (by rw [h]; trivial)) upd_same⟩
theorem r_disp (h : ∀ p H1, H p = none → Fr [] H H1 → H1 p = some (.dK []) → tPairs trs σ H1 fun ps H2 => kDisp p Q ps H2) : tDisp trs σ H Q := fun p hp => h p _ hp (.new hp) upd_same
theorem r_kDisp {p : Addr} {ps : List (V × V)} (kvs res : List (Key × V)) (h : H p = some (.dK [])) (e : ps = kvs.map (fun kv => (kV kv.1, kv.2))) (hl : kvs.length ≤ 15) (em : mergeK [] kvs = res) (q : ∀ H', Fr [p] H H' → H' p = some (.dK res) → Q (.ref p) H') : kDisp p Q ps H :=
  ⟨h, kvs, e, hl, q _ (.chg (by rw [h]; trivial)) (by rw [em]; exact upd_same)⟩
theorem r_pairN (h : R [] H) : tPairs [] σ H R := h
theorem r_pairC {tk : TE} (h : tk σ H fun x H1 => tv σ H1 fun y H2 => tPairs trs σ H2 fun ps H3 => R ((x, y) :: ps) H3) : tPairs ((tk, tv) :: trs) σ H R := h
end
/-! ### o.f += e -/
def kFA (K : PySem.W.Frag) (f : Str) (rd : V → V → Hp → VK → Prop) (tv : TE) (nx : L2.St → Hp → Prop) (σ : L2.St) (x : V) (H : Hp) : Prop := ∃ a C dx fs v, x = .ref a ∧ H a = some (.ins C dx fs) ∧ Cls K C ∧ NoAttr K C f ∧ fs.lookup f = some v ∧
  tv σ H fun y H2 => rd v y H2 fun z H3 => ∃ dx' fs', H3 a = some (.ins C dx' fs') ∧ fs'.length < 1000 ∧ nx σ (upd H3 a (.ins C dx' (putF f z fs')))
def kFA2 (f : Str) (a C : Addr) (nx : L2.St → Hp → Prop) (σ : L2.St) (z : V) (H : Hp) : Prop := ∃ dx fs, H a = some (.ins C dx fs) ∧ fs.length < 1000 ∧ nx σ (upd H a (.ins C dx (putF f z fs)))
section
variable {K : PySem.W.Frag} {σ : L2.St} {H : Hp} {Q : VK} {nx bk ct : L2.St → Hp → Prop} {rt : VK} {ta tv : TE} {a C dx : Addr} {fs : List (Str × V)} {f : Str} {v z : V} {rd : V → V → Hp → VK → Prop}
theorem r_fldaug (h : ta σ H fun x H1 => kFA K f rd tv nx σ x H1) : sFldAug K ta tv rd f ⟨nx, rt, bk, ct⟩ σ H := h
theorem r_kFA (h : H a = some (.ins C dx fs)) (c : Cls K C) (n : NoAttr K C f) (l : fs.lookup f = some v) (q : tv σ H fun y H2 => rd v y H2 fun z H3 => kFA2 f a C nx σ z H3) : kFA K f rd tv nx σ (.ref a) H := ⟨a, C, dx, fs, v, rfl, h, c, n, l, q⟩
theorem r_kFA2 (h : H a = some (.ins C dx fs)) (hl : fs.length < 1000) (q : ∀ H', Fr [a] H H' → H' a = some (.ins C dx (putF f z fs)) → nx σ H') : kFA2 f a C nx σ z H := ⟨dx, fs, h, hl, q _ (.chg (by rw [h]; trivial)) upd_same⟩
theorem r_rAddS {i j : Str} (hl : i.length + j.length ≤ 16777216) (q : Q (.str (i ++ j)) H) : L2.rAddS (.str i) (.str j) H Q := ⟨i, j, rfl, rfl, by rw [sizeLine_eq]; exact hl, q⟩
theorem r_extend {l b : Addr} {xs zs : List V} (h : H l = some (.lst xs)) (h2 : H b = some (.lst zs)) (hl : xs.length + zs.length ≤ 16777216) (q : ∀ H', Fr [l] H H' → H' l = some (.lst (xs ++ zs)) → Q .non H') : rExtend (.ref l) [.ref b] H Q :=
  ⟨l, b, xs, zs, rfl, rfl, h, h2, by rw [sizeLine_eq]; exact hl, q _ (.chg (by rw [h]; trivial)) upd_same⟩
end
theorem r_inV {K : PySem.W.Frag} {H : Hp} {Q : VK} {x : V} {p : Addr} {xs : List V} {b : Bool} (h : SqL K H p xs ∨ SqT K H p xs) (e : (flatV x && (xs.all flatV && (inV x xs == b))) = true) (q : Q (.bl b) H) : rInA K x (.ref p) H Q := by
  rw [Bool.and_eq_true, Bool.and_eq_true, beq_iff_eq] at e
  exact r_inA h e.1 e.2.1 (by rw [e.2.2]; exact q)
theorem r_niV {K : PySem.W.Frag} {H : Hp} {Q : VK} {x : V} {p : Addr} {xs : List V} {b : Bool} (h : SqL K H p xs ∨ SqT K H p xs) (e : (flatV x && (xs.all flatV && ((!inV x xs) == b))) = true) (q : Q (.bl b) H) : rNiA K x (.ref p) H Q := by
  rw [Bool.and_eq_true, Bool.and_eq_true, beq_iff_eq] at e
  exact r_niA h e.1 e.2.1 (by rw [e.2.2]; exact q)
theorem r_neB {K : PySem.W.Frag} {H : Hp} {Q : VK} {a b : Bool} (q : Q (.bl (!decide (a = b))) H) : rNeA K (.bl a) (.bl b) H Q := .inr (.inr (.inr ⟨rfl, by rw [show decide (V.bl a = V.bl b) = decide (a = b) by simp]; exact q⟩))
theorem r_eqB {K : PySem.W.Frag} {H : Hp} {Q : VK} {a b : Bool} (q : Q (.bl (decide (a = b))) H) : rEqA K (.bl a) (.bl b) H Q := .inr (.inr (.inr ⟨rfl, by rw [show decide (V.bl a = V.bl b) = decide (a = b) by simp]; exact q⟩))
theorem l_str {σ : L2.St} {H : Hp} {Q : VK} {te : TE} {tt : TT} {g : TG} {vs : List Nat} {z : Str} (Pv : Addr → Nat → Hp → Prop) (h0 : ∀ A H', H A = none → Fr [] H H' → H' A = some (.lst []) → Pv A 0 H')
    (hs : ∀ A (i : Nat) c H1, H A = none → z.cps[i]? = some c → Pv A i H1 → g (.str ⟨#[c]⟩) (wipe σ vs) H1 fun σ2 H2 => kElt A (Pv A (i + 1)) tt te vs σ σ2 H2) (hd : ∀ A H', H A = none → Pv A z.cps.size H' → Q (.ref A) H') : kLc g tt te vs σ Q (Its z) H :=
  l_it walk_str Pv h0 (fun _ _ _ _ _ => trivial) (fun A i x H1 H' hA hi p y => by obtain ⟨rfl, c, e, rfl⟩ := y; exact hs A i c _ hA e p) hd
/-! ### the same, the written part named (inside a comprehension) -/
section
variable {X : Cx} {K : PySem.W.Frag} {w : World} {a b e o : Expr} {rest es : List Expr} {ta tb te to : TE} {t : TA} {pos apos cpos : Pos} {name : Str} {T id : String} {r : V → List V → Hp → VK → Prop}
theorem op_addAQ (h : X.K = K := by rfl) : OpR X (binaryOp .Add) (rAddA K) := h ▸ op_addA
theorem op_eqAQ (hu : X.A.units + 64 < cLine) (h : X.K = K := by rfl) : OpR X (compareOp .Eq) (rEqA K) := h ▸ op_eqA hu
theorem op_neAQ (hu : X.A.units + 64 < cLine) (h : X.K = K := by rfl) : OpR X (compareOp .NotEq) (rNeA K) := h ▸ op_neA hu
theorem op_inAQ (h : X.K = K := by rfl) : OpR X (compareOp .In) (rInA K) := h ▸ op_inA
theorem op_niAQ (h : X.K = K := by rfl) : OpR X (compareOp .NotIn) (rNiA K) := h ▸ op_niA
theorem op_inKQ (h : X.K = K := by rfl) (h2 : X.w = w := by rfl) : OpR X (compareOp .In) (rInK K w (fun b => b)) := h ▸ h2 ▸ op_inK
theorem op_niKQ (h : X.K = K := by rfl) (h2 : X.w = w := by rfl) : OpR X (compareOp .NotIn) (rInK K w not) := h ▸ h2 ▸ op_niK
theorem sl_AQ (h : X.K = K := by rfl) : SlR X (rSlA K) := h ▸ sl_A
theorem ix_seqQ (h : X.K = K := by rfl) : IxR X (rIx K) := h ▸ ix_seq
theorem ix_kdictQ (h : X.K = K := by rfl) (h2 : X.w = w := by rfl) : IxR X (rIxD K w) := h ▸ h2 ▸ ix_kdict
theorem c_lenQ (h : X.K = K := by rfl) : CallR X (.builtin "len") (kLen K) := h ▸ c_len
theorem c_listOfQ (h : X.K = K := by rfl) : CallR X (.type "list") (kListOf K) := h ▸ c_listOf
theorem c_isiQ (h : X.K = K := by rfl) : CallR X (.builtin "isinstance") (kIsi K) := h ▸ c_isi
theorem pe_fldGQ {f : Str} (he : PE X e ta) (hb : attributeBase e f X.env (eval e X.env) = eval e X.env) (h : X.K = K := by rfl) : PE X (.Attribute e f pos) (tFldG K ta f) := h ▸ pe_fldG he hb
theorem pe_notTQ (ha : PE X a ta) (h : X.K = K := by rfl) : PE X (.UnaryOp .Not a pos) (tNotT K ta) := h ▸ pe_notT ha
theorem pe_andTQ (ha : PE X a ta) (hb : PE X (.BoolOp .And (b :: rest) pos) tb) (h : X.K = K := by rfl) : PE X (.BoolOp .And (a :: b :: rest) pos) (tAndT K ta tb) := h ▸ pe_andT ha hb
theorem pe_orTQ (ha : PE X a ta) (hb : PE X (.BoolOp .Or (b :: rest) pos) tb) (h : X.K = K := by rfl) : PE X (.BoolOp .Or (a :: b :: rest) pos) (tOrT K ta tb) := h ▸ pe_orT ha hb
theorem pt_truGQ (he : PE X e te) (h2 : ∀ whole, isTrue e X.env whole = (do let v ← whole; standAt e.pos; holding [v] (truthy v)) := by intro _; rfl) (h : X.K = K := by rfl) : PT X e (tTruG K te) := h ▸ pt_truG he h2
theorem pi_anyQ {tg l : Expr} {tl : TE} (hl : PE X l tl) (h : X.K = K := by rfl) : PI X tg l (iAny K tl) := h ▸ pi_any hl
theorem pe_bm0GQ (pa : PlainAttrs T) (slot : Slot T name id) (hty : typeOf (.builtin id) = pure (.type "method_descriptor")) (hm : MtR X id r) (ho : PE X o to)
    (hbase : attributeBase o name X.env (eval o X.env) = eval o X.env := by rfl) (hline : (apos.endLine == cpos.line) = true := by rfl) (h : X.K = K := by rfl) : PE X (.Call (.Attribute o name apos) [] [] cpos) (tBMG0 K T r to) := h ▸ pe_bm0G pa slot hty hm ho hbase hline
theorem pe_bmGQ (pa : PlainAttrs T) (slot : Slot T name id) (hty : typeOf (.builtin id) = pure (.type "method_descriptor")) (hm : MtR X id r) (ho : PE X o to) (ha : PA X (e :: es) t)
    (hbase : attributeBase o name X.env (eval o X.env) = eval o X.env := by rfl)
    (hfew : ((backTo cpos (starEach (e :: es) X.env)).all (fun x => !x.1) && (backToKw cpos (keywordEach [] X.env)).all (fun x => x.1.isSome)
      && decide ((e :: es).length + ([] : List Keyword).length + (if ([] : List Keyword).isEmpty then 0 else 1) < 30)) = true := by rfl)
    (hline : (apos.endLine == cpos.line) = true := by rfl) (hs : starEach (e :: es) X.env = (false, eval e X.env) :: starEach es X.env := by rfl) (hplain : (backTo cpos (starEach es X.env)).any (·.1) = false := by rfl) (h : X.K = K := by rfl) :
    PE X (.Call (.Attribute o name apos) (e :: es) [] cpos) (tBMG K T r to t) := h ▸ pe_bmG pa slot hty hm ho ha hbase hfew hline hs hplain
end
end G


namespace K11
open PySem PySem.Spec L2 G
open C8 (tCut pss_cut)
local macro_rules | `(tactic| walk_at "ns") => `(tactic| first | exact List.not_mem_nil | (simp only [List.mem_cons, List.not_mem_nil, or_false, not_false_eq_true]; done) | (simp only [List.mem_cons, List.not_mem_nil, or_false]; walk_at "ne"))
local macro_rules | `(tactic| walk_at "hp") => `(tactic| first | assumption | (apply Fr.get; (focus assumption); (focus walk_at "hp"); (focus walk_at "ns")))
local macro_rules | `(tactic| walk_at "ne") => `(tactic| first | assumption | walk_at "dne" | (apply Ne.symm; assumption) | (apply ne_of_none; (rotate_left; focus assumption); (focus walk_at "hp")) | (apply Ne.symm; apply ne_of_none; (rotate_left; focus assumption); (focus walk_at "hp")))
local macro_rules | `(tactic| walk_at "sq") => `(tactic| first | assumption | (apply SqL.of; walk_at "hp") | (apply SqT.of; walk_at "hp") | (apply Fr.sql; (focus assumption); (focus walk_at "sq"); (focus walk_at "ns")) | (apply Fr.sqt; (focus assumption); (focus walk_at "sq"); (focus walk_at "ns")))
local macro_rules | `(tactic| walk_at "none") => `(tactic| first | assumption | (apply Fr.dom; (focus assumption); walk_at "none"))
local macro_rules | `(tactic| walk_at "fr") => `(tactic| first | assumption | exact Fr.refl _ _ | (apply Fr.step0; (focus assumption); walk_at "fr") | (apply Fr.stepS; (focus assumption); walk_at "fr") | (apply Fr.stepL; (focus assumption); (focus walk_at "fr"); (simp only [List.mem_cons, true_or, or_true]; done)) | (apply Fr.stepN; (focus assumption); (focus walk_at "fr"); (focus walk_at "none")))
local macro_rules | `(tactic| walk_at "im") => `(tactic| first | assumption | exact Im.int _ | exact Im.str _ | exact Im.bl _ | exact Im.non | (apply Im.fr; (focus assumption); walk_at "im"))
local macro_rules | `(tactic| walk_at "s1") => `(tactic| first
  | with_reducible refine r_seq ?_ | with_reducible refine r_asg ?_ | with_reducible refine r_drop ?_ | with_reducible refine r_ret ?_ | with_reducible refine r_retN ?_ | with_reducible refine r_ifS ?_ | with_reducible refine r_next ?_ | with_reducible refine r_break ?_ | with_reducible refine r_cont ?_
  | (with_reducible refine r_name ?_; dsimp only [List.set_cons_zero, List.set_cons_succ])
  | ((with_reducible apply r_var); (focus exact rfl))
  | with_reducible refine r_c ?_ | with_reducible refine r_op ?_ | with_reducible refine r_un ?_ | with_reducible refine r_I0 ?_ | with_reducible refine r_U ?_
  | with_reducible refine r_addI ?_ | with_reducible refine r_eqI ?_ | with_reducible refine r_eqS ?_ | with_reducible refine r_neI ?_ | with_reducible refine r_neS ?_ | with_reducible refine r_isN ?_ | with_reducible refine r_ntN ?_ | with_reducible refine r_isB ?_ | with_reducible refine r_isBN ?_
  | with_reducible refine r_lst ?_ | with_reducible refine r_tup ?_ | with_reducible refine r_test ?_ | with_reducible refine r_kB ?_ | with_reducible refine r_tru ?_ | with_reducible refine r_and ?_ | with_reducible refine r_or ?_ | with_reducible refine r_not ?_ | with_reducible refine r_ifE ?_ | with_reducible refine r_chain ?_ | with_reducible refine r_kCh ?_
  | with_reducible refine r_tt ?_ | with_reducible refine r_ff ?_ | with_reducible refine r_call ?_ | with_reducible refine r_nil ?_ | with_reducible refine r_cons ?_ | with_reducible refine r_fld ?_ | with_reducible refine r_sFld ?_ | with_reducible refine r_cb ?_ | with_reducible refine r_bm ?_ | with_reducible refine r_bm0 ?_
  | with_reducible refine r_abs ?_ | with_reducible refine r_int ?_ | with_reducible refine r_intB ?_ | with_reducible refine r_min2 ?_ | with_reducible refine r_max2 ?_ | with_reducible refine r_gcons ?_ | with_reducible refine r_gnil ?_ | with_reducible refine r_gsub ?_ | with_reducible refine r_tyS ?_ | ((with_reducible apply r_mulI); (focus (first | exact .inr ⟨by decide, by decide⟩ | exact .inl ⟨by decide, by decide⟩ | exact .inr ⟨by omega, by omega⟩ | exact .inl ⟨by omega, by omega⟩)))
  | ((with_reducible apply r_mod); (focus (first | decide | omega))) | ((with_reducible apply r_fdiv); (focus (first | decide | omega))) | ((with_reducible apply r_pow); (focus (first | decide | exact ⟨by decide, by decide, by decide⟩)))
  | with_reducible refine r_sl ?_ | with_reducible refine r_noPart ?_ | with_reducible refine r_part ?_ | with_reducible refine r_kPart ?_ | with_reducible refine r_andT ?_ | with_reducible refine r_orT ?_ | with_reducible refine r_notT ?_ | with_reducible refine r_kAndB ?_ | with_reducible refine r_kOrB ?_ | with_reducible refine r_kNotB ?_ | with_reducible refine r_dget ?_ | with_reducible refine r_dput ?_ | with_reducible refine r_pairN ?_ | with_reducible refine r_pairC ?_ | with_reducible refine r_fldaug ?_ | with_reducible refine r_meth ?_ | with_reducible refine r_make ?_ | with_reducible refine r_getK ?_ | with_reducible refine r_iZip ?_ | with_reducible refine r_kTruB ?_ | with_reducible refine r_for ?_ | with_reducible refine r_lc ?_ | with_reducible refine r_rng1 ?_ | with_reducible refine r_rng2 ?_ | with_reducible refine r_iAny ?_ | with_reducible refine r_yes ?_ | with_reducible refine r_turn ?_ | with_reducible refine r_ipI ?_ | ((with_reducible apply r_aug); (focus exact rfl))
  | ((with_reducible apply r_kLst); (focus exact Nat.le_of_ble_eq_true rfl); intro _ _ _ _ _) | ((with_reducible apply r_kTup); (focus exact Nat.le_of_ble_eq_true rfl); intro _ _ _ _ _))
local macro_rules | `(tactic| walk_at "go") => `(tactic| (repeat (walk_at "s1")))
local macro_rules | `(tactic| walk_at "ixT") => `(tactic| ((with_reducible apply r_ixT); (focus walk_at "sq"); (focus exact rfl)))
local macro_rules | `(tactic| walk_at "ixL") => `(tactic| ((with_reducible apply r_ixL); (focus walk_at "sq"); (focus exact rfl)))
local macro_rules | `(tactic| walk_at "len") => `(tactic| first | ((with_reducible apply r_lenL); (focus walk_at "sq")) | ((with_reducible apply r_lenT); (focus walk_at "sq")))
local macro_rules | `(tactic| walk_at "tyL") => `(tactic| ((with_reducible apply r_tyL); (focus walk_at "hp")))
local macro_rules | `(tactic| walk_at "ixP") => `(tactic| ((with_reducible apply r_ixP); (focus walk_at "sq"); (focus (first | assumption | omega)); (focus (first | assumption | omega)); intro _ hv; (simp only [List.mem_cons, List.not_mem_nil, or_false, List.map_cons, List.map_nil] at hv)))
local macro_rules | `(tactic| walk_at "apT") => `(tactic| ((with_reducible apply r_append); (focus walk_at "hp")))
local macro_rules | `(tactic| walk_at "tp") => `(tactic| first | assumption | (apply Fr.tup; (focus assumption); walk_at "tp"))
local macro_rules | `(tactic| walk_at "wp") => `(tactic| simp only [List.map, wipe, List.set])
local macro_rules | `(tactic| walk_at "elt") => `(tactic| (with_reducible apply r_kElt; (focus exact rfl); walk_at "go"))
local macro_rules | `(tactic| walk_at "sd") => `(tactic| first | with_reducible refine r_dt rfl ?_ | ((with_reducible apply r_df); (focus (first | decide +kernel | (intro z; cases z; done)))) | with_reducible refine r_ndf rfl ?_ | ((with_reducible apply r_ndt); (focus (first | decide +kernel | (intro z; cases z; done)))))
local macro_rules | `(tactic| walk_at "om") => `(tactic| first | ((with_reducible apply r_dt); (focus omega)) | ((with_reducible apply r_df); (focus omega)) | ((with_reducible apply r_ndf); (focus omega)) | ((with_reducible apply r_ndt); (focus omega)))
local macro_rules | `(tactic| walk_at "isd") => `(tactic| first
  | ((with_reducible apply r_inV (b := true)); (focus (first | (apply Or.inl; walk_at "sq") | (apply Or.inr; walk_at "sq"))); (focus (decide +kernel)))
  | ((with_reducible apply r_inV (b := false)); (focus (first | (apply Or.inl; walk_at "sq") | (apply Or.inr; walk_at "sq"))); (focus (decide +kernel)))
  | ((with_reducible apply r_niV (b := true)); (focus (first | (apply Or.inl; walk_at "sq") | (apply Or.inr; walk_at "sq"))); (focus (decide +kernel)))
  | ((with_reducible apply r_niV (b := false)); (focus (first | (apply Or.inl; walk_at "sq") | (apply Or.inr; walk_at "sq"))); (focus (decide +kernel))))

def top (i : Nat) : Stmt := PySem.Challenge.pw_gluebridge_k11_text_recipes.main.body.getD i (.Pass ⟨0, 0, 0, 0⟩)
abbrev s_law_take : Stmt := top 25
theorem sc_law_take : FnScope ["deck", "many"] ["deck", "many"] (defScope s_law_take) := ⟨rfl, rfl, rfl, by decide +kernel, rfl, by decide +kernel, by decide +kernel⟩
abbrev s_law_deck : Stmt := top 24
theorem sc_law_deck : FnScope ["script", "cells", "each", "deck", "seed", "k", "cell", "rest", "at"] ["script", "cells", "each"] (defScope s_law_deck) := ⟨rfl, rfl, rfl, by decide +kernel, rfl, by decide +kernel, by decide +kernel⟩
abbrev s_law_plain : Stmt := top 26
theorem sc_law_plain : FnScope ["value", "item"] ["value"] (defScope s_law_plain) := ⟨rfl, rfl, rfl, by decide +kernel, rfl, by decide +kernel, by decide +kernel⟩
abbrev s_fits : Stmt := top 17
theorem sc_fits : FnScope ["letter", "operand", "behind", "letters"] ["letter", "operand", "behind", "letters"] (defScope s_fits) := ⟨rfl, rfl, rfl, by decide +kernel, rfl, by decide +kernel, by decide +kernel⟩
abbrev s_shape_of : Stmt := top 18
theorem sc_shape_of : FnScope ["part", "word"] ["part", "word"] (defScope s_shape_of) := ⟨rfl, rfl, rfl, by decide +kernel, rfl, by decide +kernel, by decide +kernel⟩
abbrev s_allowed : Stmt := top 19
theorem sc_allowed : FnScope ["order", "part", "behind", "letters", "shape", "letter", "operand"] ["order", "part", "behind", "letters"] (defScope s_allowed) := ⟨rfl, rfl, rfl, by decide +kernel, rfl, by decide +kernel, by decide +kernel⟩
abbrev s_check_orders : Stmt := top 20
theorem sc_check_orders : FnScope ["part", "orders", "letters", "at"] ["part", "orders", "letters"] (defScope s_check_orders) := ⟨rfl, rfl, rfl, by decide +kernel, rfl, by decide +kernel, by decide +kernel⟩
abbrev s_check_letters : Stmt := top 21
theorem sc_check_letters : FnScope ["letters", "at"] ["letters"] (defScope s_check_letters) := ⟨rfl, rfl, rfl, by decide +kernel, rfl, by decide +kernel, by decide +kernel⟩
abbrev s_Speller___init__ : Stmt := inClass (top 3) 0
theorem sc_Speller___init__ : FnScope ["self", "flags", "kept"] ["self", "flags", "kept"] (defScope s_Speller___init__) := ⟨rfl, rfl, rfl, by decide +kernel, rfl, by decide +kernel, by decide +kernel⟩
abbrev s_Speller_do : Stmt := inClass (top 3) 2
theorem sc_Speller_do : FnScope ["self", "order", "sign", "word"] ["self", "order", "sign"] (defScope s_Speller_do) := ⟨rfl, rfl, rfl, by decide +kernel, rfl, by decide +kernel, by decide +kernel⟩
abbrev s_Speller_skipped : Stmt := inClass (top 3) 3
theorem sc_Speller_skipped : FnScope ["self", "order", "sign", "word"] ["self", "order", "sign"] (defScope s_Speller_skipped) := ⟨rfl, rfl, rfl, by decide +kernel, rfl, by decide +kernel, by decide +kernel⟩
abbrev s_Speller_execute : Stmt := inClass (top 3) 4
theorem sc_Speller_execute : FnScope ["self", "orders", "sign", "path", "at", "order"] ["self", "orders", "sign"] (defScope s_Speller_execute) := ⟨rfl, rfl, rfl, by decide +kernel, rfl, by decide +kernel, by decide +kernel⟩
abbrev s_text_image : Stmt := top 4
theorem sc_text_image : FnScope ["recipe", "text", "speller", "sign"] ["recipe", "text"] (defScope s_text_image) := ⟨rfl, rfl, rfl, by decide +kernel, rfl, by decide +kernel, by decide +kernel⟩
abbrev s_TextRecipe___init__ : Stmt := inClass (top 22) 0
theorem sc_TextRecipe___init__ : FnScope ["self", "letters", "body", "finish"] ["self", "letters", "body", "finish"] (defScope s_TextRecipe___init__) := ⟨rfl, rfl, rfl, by decide +kernel, rfl, by decide +kernel, by decide +kernel⟩
abbrev s_law_text_order : Stmt := top 27
theorem sc_law_text_order : FnScope ["deck", "letters", "behind", "is_body", "words", "word", "skips", "flag"] ["deck", "letters", "behind", "is_body"] (defScope s_law_text_order) := ⟨rfl, rfl, rfl, by decide +kernel, rfl, by decide +kernel, by decide +kernel⟩
abbrev s_law_text_recipe : Stmt := top 28
theorem sc_law_text_recipe : FnScope ["deck", "letters", "sizes", "size", "body", "at"] ["deck"] (defScope s_law_text_recipe) := ⟨rfl, rfl, rfl, by decide +kernel, rfl, by decide +kernel, by decide +kernel⟩
abbrev s_law_part : Stmt := top 29
theorem sc_law_part : FnScope ["orders", "world", "sign", "at", "turn", "order", "word"] ["orders", "world", "sign"] (defScope s_law_part) := ⟨rfl, rfl, rfl, by decide +kernel, rfl, by decide +kernel, by decide +kernel⟩
abbrev s_law_spelt : Stmt := top 30
theorem sc_law_spelt : FnScope ["recipe", "text", "letters", "body", "finish", "world", "sign"] ["recipe", "text"] (defScope s_law_spelt) := ⟨rfl, rfl, rfl, by decide +kernel, rfl, by decide +kernel, by decide +kernel⟩
abbrev s_law_texts : Stmt := top 31
theorem sc_law_texts : FnScope ["deck", "letters", "texts", "layer", "size", "longer", "text", "signs", "turn", "at", "letter"] ["deck", "letters"] (defScope s_law_texts) := ⟨rfl, rfl, rfl, by decide +kernel, rfl, by decide +kernel, by decide +kernel⟩
abbrev s_law : Stmt := top 32
theorem sc_law : FnScope ["script", "deck", "recipe", "letters", "body", "finish", "passed", "made", "texts", "turn", "text"] ["script"] (defScope s_law) := ⟨rfl, rfl, rfl, by decide +kernel, rfl, by decide +kernel, by decide +kernel⟩
structure Tx (K : PySem.W.Frag) (w : World) (mg : Str → Option Value) : Prop where
  abs : mg "abs" = none
  bool : mg "bool" = none
  g_BODY_ORDERS : mg "BODY_ORDERS" = some (.ref (He.ga K "BODY_ORDERS"))
  w_BODY_ORDERS : WD K w (He.ga K "BODY_ORDERS") [("sign", .str "lk"), ("echo", .str ""), ("keep", .str ""), ("kept", .str "lk"), ("pay", .str ""), ("write", .str "w"), ("raise", .str "f"), ("lower", .str "f"), ("up", .str "fk"), ("down", .str "fk"), ("skip", .str "k"), ("next", .str ""), ("lose", .str "")]
  g_BOUNDS : mg "BOUNDS" = some (.ref (He.ga K "BOUNDS"))
  w_BOUNDS : WD K w (He.ga K "BOUNDS") [("r", .int (8)), ("f", .int (4))]
  g_FINISH_ORDERS : mg "FINISH_ORDERS" = some (.ref (He.ga K "FINISH_ORDERS"))
  w_FINISH_ORDERS : WD K w (He.ga K "FINISH_ORDERS") [("kept", .str "lk"), ("pay", .str ""), ("write", .str "w"), ("raise", .str "f"), ("lower", .str "f"), ("up", .str "fk"), ("down", .str "fk"), ("skip", .str "k"), ("next", .str ""), ("lose", .str "")]
  g_FLAGS : ∃ t, mg "FLAGS" = some (.int (4) t)
  g_LETTERS : ∃ t, mg "LETTERS" = some (.str "abcdefghijklmnopqrstuvwxyz" t)
  g_MOST_DIVISOR : ∃ t, mg "MOST_DIVISOR" = some (.int (6) t)
  g_MOST_ORDERS : ∃ t, mg "MOST_ORDERS" = some (.int (400) t)
  g_NUMBER_ORDERS : mg "NUMBER_ORDERS" = some (.ref (He.ga K "NUMBER_ORDERS"))
  w_NUMBER_ORDERS : WD K w (He.ga K "NUMBER_ORDERS") [("put", .str "rn"), ("copy", .str "rr"), ("add", .str "rrr"), ("times", .str "rrn"), ("over", .str "rd"), ("rest", .str "rd"), ("less", .str "rrk"), ("same", .str "rrk"), ("skip", .str "k"), ("answer", .str "r"), ("lose", .str "")]
  int : mg "int" = none
  isinstance : mg "isinstance" = none
  len : mg "len" = none
  list : mg "list" = none
  min : mg "min" = none
  range : mg "range" = none
  str : mg "str" = none
  tuple : mg "tuple" = none
  zip : mg "zip" = none
  d_law_take : DefAt K mg "_law_take" s_law_take
  d_law_deck : DefAt K mg "_law_deck" s_law_deck
  d_law_plain : DefAt K mg "_law_plain" s_law_plain
  d_fits : DefAt K mg "fits" s_fits
  d_shape_of : DefAt K mg "shape_of" s_shape_of
  d_allowed : DefAt K mg "allowed" s_allowed
  d_check_orders : DefAt K mg "check_orders" s_check_orders
  d_check_letters : DefAt K mg "check_letters" s_check_letters
  d_Speller___init__ : InitAt K mg "Speller" "Speller.__init__" s_Speller___init__
  d_Speller_do : MethAt K "Speller" "do" "Speller.do" s_Speller_do
  d_Speller_skipped : MethAt K "Speller" "skipped" "Speller.skipped" s_Speller_skipped
  d_Speller_execute : MethAt K "Speller" "execute" "Speller.execute" s_Speller_execute
  d_text_image : DefAt K mg "text_image" s_text_image
  d_TextRecipe___init__ : InitAt K mg "TextRecipe" "TextRecipe.__init__" s_TextRecipe___init__
  d_law_text_order : DefAt K mg "_law_text_order" s_law_text_order
  d_law_text_recipe : DefAt K mg "_law_text_recipe" s_law_text_recipe
  d_law_part : DefAt K mg "_law_part" s_law_part
  d_law_spelt : DefAt K mg "_law_spelt" s_law_spelt
  d_law_texts : DefAt K mg "_law_texts" s_law_texts
  d_law : DefAt K mg "law" s_law
  cl_Sp : Cls K (He.ga K "Speller")
  n_flags : NoAttr K (He.ga K "Speller") "flags"
  n_kept : NoAttr K (He.ga K "Speller") "kept"
  n_written : NoAttr K (He.ga K "Speller") "written"
  cl_TR : Cls K (He.ga K "TextRecipe")
  n_letters : NoAttr K (He.ga K "TextRecipe") "letters"
  n_body : NoAttr K (He.ga K "TextRecipe") "body"
  n_finish : NoAttr K (He.ga K "TextRecipe") "finish"
/-- a deck: a list of ints, none below 0 -/
def Dk (H : Hp) (l : Addr) : Prop := ∃ ds : List Int, H l = some (.lst (ds.map V.int)) ∧ ∀ d ∈ ds, 0 ≤ d
def spDeck (K : PySem.W.Frag) : Sp := sp3 fun a b c H Q E => ∃ (sc : Addr) (ns : List Int) (m e : Nat), a = .ref sc ∧ b = .int m ∧ c = .int e ∧ SqL K H sc (ns.map V.int) ∧ ns.length ≤ 63 ∧ m ≤ 100 ∧ e ≤ 100 ∧
  ∀ l H', Fr [] H H' → H l = none → Dk H' l → Q (.ref l) H'
def spTake : Sp := sp2 fun a b H Q E => ∃ (l : Addr) (m : Int), a = .ref l ∧ b = .int m ∧ Dk H l ∧ 0 < m ∧ ∀ r H', 0 ≤ r → r < m → Fr [l] H H' → Dk H' l → Q (.int r) H'
theorem last_map {ds : List Int} (h : ds ≠ []) : (ds.map V.int)[(ds.map V.int).length - 1]? = some (.int (ds.getLast h)) := by
  rw [List.length_map, List.getElem?_map, ← List.getLast?_eq_getElem?, List.getLast?_eq_some_getLast h]
  rfl
theorem at_ints {ns : List Int} {i : Nat} (h : i < ns.length) : atI (ns.map V.int) (i : Int) = some (.int (ns[i])) := atI_nat (by rw [List.getElem?_map, List.getElem?_eq_getElem h]; rfl)
theorem nn_app {es : List Int} {x : Int} (h : ∀ d ∈ es, 0 ≤ d) (hx : 0 ≤ x) : ∀ d ∈ es ++ [x], 0 ≤ d := fun d hd => by
  rcases List.mem_append.mp hd with q | q
  · exact h d q
  · rw [List.mem_singleton.mp q]; exact hx
theorem Dk.fr {S : List Addr} {H H' : Hp} {l : Addr} (f : Fr S H H') (h : Dk H l) (n : l ∉ S) : Dk H' l := by
  obtain ⟨ds, h1, h2⟩ := h
  exact ⟨ds, f.get h1 n, h2⟩
theorem Dk.ne {H : Hp} {l p : Addr} (n : H p = none) (h : Dk H l) : p ≠ l := by
  obtain ⟨ds, h1, _⟩ := h
  exact (ne_of_none h1 n).symm
theorem Dk.ne' {H : Hp} {l A : Addr} (h : Dk H l) {vs : List V} (hA : H A = some (.lst vs)) (n : ¬ ∃ ns : List Int, vs = ns.map V.int) : A ≠ l := fun e => by
  obtain ⟨ds, h1, _⟩ := h
  rw [← e, hA] at h1
  exact n ⟨ds, HO.lst.inj (Option.some.inj h1)⟩
theorem c_take {l : Addr} {m : Int} {H : Hp} {Q : VK} {E : XK} (h : Dk H l) (hm : 0 < m) (q : ∀ r H', 0 ≤ r → r < m → Fr [l] H H' → Dk H' l → Q (.int r) H') : spTake [.ref l, .int m] H Q E := ⟨_, _, rfl, l, m, rfl, rfl, h, hm, q⟩
/-- a draw of an int -/
def spDraw (P : Int → Prop) : Sp := sp1 fun a H Q E => ∃ l, a = .ref l ∧ Dk H l ∧ ∀ r H', P r → Fr [l] H H' → Dk H' l → Q (.int r) H'
theorem c_draw {P : Int → Prop} {l : Addr} {H : Hp} {Q : VK} {E : XK} (h : Dk H l) (q : ∀ r H', P r → Fr [l] H H' → Dk H' l → Q (.int r) H') : spDraw P [.ref l] H Q E := ⟨_, rfl, l, rfl, h, q⟩
/-! ### _law_plain -/
mutual
def plD : PyData → PyData
  | .none => .str "None"
  | .bool b => .str (if b then "True" else "False")
  | .int i => .list [.bool false, .int i]
  | .str x => .list [.bool true, .str x]
  | .list ds => .list (.bool true :: plAll ds)
  | .tuple ds => .list (.bool false :: plAll ds)
  | .dict _ => .none
def plAll : List PyData → List PyData
  | [] => []
  | d :: ds => plD d :: plAll ds
end
theorem plAll_map : ∀ ds, plAll ds = ds.map plD
  | [] => by rw [plAll]; rfl
  | d :: ds => by rw [plAll, plAll_map ds]; rfl
/-- no deeper than n, no list too long -/
def okD : Nat → PyData → Prop
  | _, .none => True
  | _, .bool _ => True
  | _, .int _ => True
  | _, .str x => PyData.strOk x = true
  | 0, _ => False
  | n + 1, .list ds => ds.length ≤ 1000000 ∧ ∀ d ∈ ds, okD n d
  | n + 1, .tuple ds => ds.length ≤ 1000000 ∧ ∀ d ∈ ds, okD n d
  | _ + 1, .dict _ => False
theorem canAll_of {ds : List PyData} (h : ∀ d ∈ ds, d.canLay0 = true) : PyData.canLayAll0 ds = true := by
  induction ds with
  | nil => rw [PyData.canLayAll0]
  | cons d ds ih => rw [PyData.canLayAll0, h d (List.mem_cons_self ..), ih fun e he => h e (List.mem_cons_of_mem _ he)]; rfl
theorem depthAll_of {n : Nat} {ds : List PyData} (h : ∀ d ∈ ds, d.depth ≤ n) : PyData.depthAll ds ≤ n := by
  induction ds with
  | nil => rw [PyData.depthAll]; exact Nat.zero_le _
  | cons d ds ih => rw [PyData.depthAll]; exact Nat.max_le.mpr ⟨h d (List.mem_cons_self ..), ih fun e he => h e (List.mem_cons_of_mem _ he)⟩
theorem plD_can : ∀ (n : Nat) (d : PyData), okD n d → (plD d).canLay0 = true ∧ (plD d).depth ≤ n + 1
  | n, .none, _ => by rw [plD]; exact ⟨by decide +kernel, by rw [PyData.depth]; exact Nat.zero_le _⟩
  | n, .bool true, _ => by rw [plD]; exact ⟨by decide +kernel, by rw [PyData.depth]; exact Nat.zero_le _⟩
  | n, .bool false, _ => by rw [plD]; exact ⟨by decide +kernel, by rw [PyData.depth]; exact Nat.zero_le _⟩
  | n, .int i, _ => by
    rw [plD]
    refine ⟨by simp [PyData.canLay0, PyData.canLayAll0], ?_⟩
    simp [PyData.depth, PyData.depthAll]
  | n, .str x, h => by
    have h' : PyData.strOk x = true := by cases n <;> exact h
    rw [plD]
    refine ⟨by simp [PyData.canLay0, PyData.canLayAll0, h'], ?_⟩
    simp [PyData.depth, PyData.depthAll]
  | 0, .list ds, h => h.elim
  | 0, .tuple ds, h => h.elim
  | 0, .dict ds, h => h.elim
  | n + 1, .dict ds, h => h.elim
  | n + 1, .list ds, h => by
    rw [plD, plAll_map]
    have ih := fun d hd => plD_can n d (h.2 d hd)
    refine ⟨?_, ?_⟩
    · rw [PyData.canLay0]
      refine canAll_of fun e he => ?_
      rcases List.mem_cons.mp he with rfl | he
      · rw [PyData.canLay0]
      · obtain ⟨d, hd, rfl⟩ := List.mem_map.mp he
        exact (ih d hd).1
    · rw [PyData.depth]
      refine Nat.succ_le_succ (depthAll_of fun e he => ?_)
      rcases List.mem_cons.mp he with rfl | he
      · rw [PyData.depth]; exact Nat.zero_le _
      · obtain ⟨d, hd, rfl⟩ := List.mem_map.mp he
        exact (ih d hd).2
  | n + 1, .tuple ds, h => by
    rw [plD, plAll_map]
    have ih := fun d hd => plD_can n d (h.2 d hd)
    refine ⟨?_, ?_⟩
    · rw [PyData.canLay0]
      refine canAll_of fun e he => ?_
      rcases List.mem_cons.mp he with rfl | he
      · rw [PyData.canLay0]
      · obtain ⟨d, hd, rfl⟩ := List.mem_map.mp he
        exact (ih d hd).1
    · rw [PyData.depth]
      refine Nat.succ_le_succ (depthAll_of fun e he => ?_)
      rcases List.mem_cons.mp he with rfl | he
      · rw [PyData.depth]; exact Nat.zero_le _
      · obtain ⟨d, hd, rfl⟩ := List.mem_map.mp he
        exact (ih d hd).2
theorem plD_shaped {n : Nat} {d : PyData} (h : okD n d) (hn : n ≤ 60) : SeqAt.shaped (plD d) = true := by
  obtain ⟨h1, h2⟩ := plD_can n d h
  unfold SeqAt.shaped
  rw [h1, decide_eq_true (show (plD d).depth ≤ 64 by omega)]
  rfl
theorem plD_refl {n : Nat} {d : PyData} (h : okD n d) : PyData.eqv (plD d) (plD d) = true := SeqAt.eqv_refl _ (plD_can n d h).1
mutual
inductive Df (H0 H : Hp) : V → PyData → Prop
  | non : Df H0 H .non .none
  | bl (b : Bool) : Df H0 H (.bl b) (.bool b)
  | int (i : Int) : Df H0 H (.int i) (.int i)
  | str (x : Str) : Df H0 H (.str x) (.str x)
  | tup {a : Addr} {xs : List V} {ds : List PyData} : H a = some (.tup xs) → DfAll H0 H xs ds → Df H0 H (.ref a) (.tuple ds)
  | lst {a : Addr} {xs : List V} {ds : List PyData} : H0 a = none → H a = some (.lst xs) → DfAll H0 H xs ds → Df H0 H (.ref a) (.list ds)
inductive DfAll (H0 H : Hp) : List V → List PyData → Prop
  | nil : DfAll H0 H [] []
  | cons {v : V} {vs : List V} {d : PyData} {ds : List PyData} : Df H0 H v d → DfAll H0 H vs ds → DfAll H0 H (v :: vs) (d :: ds)
end
mutual
theorem Df.fr {S : List Addr} {H0 H H' : Hp} (f : Fr S H H') (n : ∀ a ∈ S, H0 a ≠ none) : ∀ (d : PyData) (v : V), Df H0 H v d → Df H0 H' v d
  | .none, _, h => by cases h; exact .non
  | .bool b, _, h => by cases h; exact .bl b
  | .int i, _, h => by cases h; exact .int i
  | .str x, _, h => by cases h; exact .str x
  | .tuple ds, _, h => by
    cases h with
    | tup h1 h2 => exact .tup (f.tup h1) (DfAll.fr f n ds _ h2)
  | .list ds, _, h => by
    cases h with
    | lst h0 h1 h2 => exact .lst h0 (f.get h1 fun q => n _ q h0) (DfAll.fr f n ds _ h2)
  | .dict _, _, h => by cases h
theorem DfAll.fr {S : List Addr} {H0 H H' : Hp} (f : Fr S H H') (n : ∀ a ∈ S, H0 a ≠ none) : ∀ (ds : List PyData) (vs : List V), DfAll H0 H vs ds → DfAll H0 H' vs ds
  | [], _, h => by cases h; exact .nil
  | d :: ds, _, h => by
    cases h with
    | cons h1 h2 => exact .cons (Df.fr f n d _ h1) (DfAll.fr f n ds _ h2)
end
mutual
theorem Df.weak {H0 H00 H : Hp} (f : ∀ a, H0 a = none → H00 a = none) : ∀ (d : PyData) (v : V), Df H0 H v d → Df H00 H v d
  | .none, _, h => by cases h; exact .non
  | .bool b, _, h => by cases h; exact .bl b
  | .int i, _, h => by cases h; exact .int i
  | .str x, _, h => by cases h; exact .str x
  | .tuple ds, _, h => by
    cases h with
    | tup h1 h2 => exact .tup h1 (DfAll.weak f ds _ h2)
  | .list ds, _, h => by
    cases h with
    | lst h0 h1 h2 => exact .lst (f _ h0) h1 (DfAll.weak f ds _ h2)
  | .dict _, _, h => by cases h
theorem DfAll.weak {H0 H00 H : Hp} (f : ∀ a, H0 a = none → H00 a = none) : ∀ (ds : List PyData) (vs : List V), DfAll H0 H vs ds → DfAll H00 H vs ds
  | [], _, h => by cases h; exact .nil
  | d :: ds, _, h => by
    cases h with
    | cons h1 h2 => exact .cons (Df.weak f d _ h1) (DfAll.weak f ds _ h2)
end
mutual
theorem Df.dp {K : PySem.W.Frag} {H0 H : Hp} : ∀ (d : PyData) (v : V), Df H0 H v d → Dp K H v d
  | .none, _, h => by cases h; exact .non
  | .bool b, _, h => by cases h; exact .bl b
  | .int i, _, h => by cases h; exact .int i
  | .str x, _, h => by cases h; exact .str x
  | .tuple ds, _, h => by
    cases h with
    | tup h1 h2 => exact .tup (.of h1) (DfAll.dp ds _ h2)
  | .list ds, _, h => by
    cases h with
    | lst h0 h1 h2 => exact .lst (.of h1) (DfAll.dp ds _ h2)
  | .dict _, _, h => by cases h
theorem DfAll.dp {K : PySem.W.Frag} {H0 H : Hp} : ∀ (ds : List PyData) (vs : List V), DfAll H0 H vs ds → DpAll K H vs ds
  | [], _, h => by cases h; exact .nil
  | d :: ds, _, h => by
    cases h with
    | cons h1 h2 => exact .cons (Df.dp d _ h1) (DfAll.dp ds _ h2)
end
mutual
theorem Dp.fr0 {K : PySem.W.Frag} {H H' : Hp} (f : Fr [] H H') : ∀ (d : PyData) (v : V), Dp K H v d → Dp K H' v d
  | .none, _, h => by cases h; exact .non
  | .bool b, _, h => by cases h; exact .bl b
  | .int i, _, h => by cases h; exact .int i
  | .str x, _, h => by cases h; exact .str x
  | .tuple ds, _, h => by
    cases h with
    | tup h1 h2 => exact .tup (f.sqt h1 List.not_mem_nil) (DpAll.fr0 f ds _ h2)
  | .list ds, _, h => by
    cases h with
    | lst h1 h2 => exact .lst (f.sql h1 List.not_mem_nil) (DpAll.fr0 f ds _ h2)
  | .dict _, _, h => by cases h
theorem DpAll.fr0 {K : PySem.W.Frag} {H H' : Hp} (f : Fr [] H H') : ∀ (ds : List PyData) (vs : List V), DpAll K H vs ds → DpAll K H' vs ds
  | [], _, h => by cases h; exact .nil
  | d :: ds, _, h => by
    cases h with
    | cons h1 h2 => exact .cons (Dp.fr0 f d _ h1) (DpAll.fr0 f ds _ h2)
end
theorem DpAll.length {K : PySem.W.Frag} {H : Hp} : ∀ {ds : List PyData} {vs : List V}, DpAll K H vs ds → vs.length = ds.length
  | [], _, h => by cases h; rfl
  | d :: ds, _, h => by
    cases h with
    | cons h1 h2 => simp [DpAll.length h2]
theorem DpAll.get {K : PySem.W.Frag} {H : Hp} : ∀ {ds : List PyData} {vs : List V} {i : Nat} {v : V}, DpAll K H vs ds → vs[i]? = some v → ∃ d, ds[i]? = some d ∧ Dp K H v d
  | [], _, i, v, h, e => by cases h; simp at e
  | d :: ds, _, 0, v, h, e => by
    cases h with
    | cons h1 h2 => simp at e; subst e; exact ⟨d, rfl, h1⟩
  | d :: ds, _, i + 1, v, h, e => by
    cases h with
    | cons h1 h2 => simpa using DpAll.get h2 (by simpa using e)
theorem DfAll.length {H0 H : Hp} : ∀ {ds : List PyData} {vs : List V}, DfAll H0 H vs ds → vs.length = ds.length
  | [], _, h => by cases h; rfl
  | d :: ds, _, h => by
    cases h with
    | cons h1 h2 => simp [DfAll.length h2]
theorem DfAll.app {H0 H : Hp} : ∀ {ds es : List PyData} {vs us : List V}, DfAll H0 H vs ds → DfAll H0 H us es → DfAll H0 H (vs ++ us) (ds ++ es)
  | [], _, _, _, h, g => by cases h; exact g
  | d :: ds, _, _, _, h, g => by
    cases h with
    | cons h1 h2 => exact .cons h1 (DfAll.app h2 g)
def spPlS (K : PySem.W.Frag) (n : Nat) : Sp := sp1 fun a H Q E => ∃ d, Dp K H a d ∧ okD n d ∧ ∀ v H', Fr [] H H' → Df H H' v (plD d) → Q v H'
def spPl (K : PySem.W.Frag) : Nat → Sp
  | 0 => fun _ _ _ _ => False
  | n + 1 => spPlS K n
theorem u_plain {K : PySem.W.Frag} {n : Nat} {a : V} {d : PyData} {H : Hp} {Q : VK} {E : XK} (h : Dp K H a d) (ok : okD n d) (q : ∀ v H', Fr [] H H' → Df H H' v (plD d) → Q v H') : spPl K (n + 1) [a] H Q E := ⟨_, rfl, d, h, ok, q⟩
theorem cal_never {P : Program} {w : World} {K : PySem.W.Frag} {mg : Str → Option Value} {base : Heap} {CX : CXT} {k : Nat} {x : Str} {st : Stmt} {ps : List Str} (D : DefAt K mg x st)
    (hb : ∀ (kV doc pm : Value) (an : Option Addr) (cdv ct : Value) (us : List Value), us.length = ps.length → bindArgs (PySem.W.fnOf x x (defArgs st) (defBody st) (defScope st) .none kV doc pm an cdv ct) ⟨us, []⟩ = pure (ps.zip us)) : Cal P w K mg base CX k x ps (fun _ _ _ _ => False) := by
  obtain ⟨f, fd, F, g⟩ := D
  exact ⟨f, fd, ⟨fun _ _ _ _ h => h.elim, fun _ _ _ _ _ _ _ _ _ _ _ _ _ h => h.elim⟩, g, F.kp, F.bindsN hb, isF_of F⟩
theorem kit2 {K : PySem.W.Frag} {t c c' : String} {a b : Bool} (h1 : kitB t c = some a) (h2 : kitB t c' = some b) : PySem.W.kitAny K (.type t) [.type c, .type c'] = some (a || b) :=
  kitAny_cons (kit_ty h1) (fun e => by subst e; exact kitAny_cons (kit_ty h2) (fun e => by subst e; rfl) (fun e => by subst e; rfl)) (fun e => by subst e; rfl)
/-! ### the written shapes of orders -/
def numS : List (Str × Str) := [("put", "rn"), ("copy", "rr"), ("add", "rrr"), ("times", "rrn"), ("over", "rd"), ("rest", "rd"), ("less", "rrk"), ("same", "rrk"), ("skip", "k"), ("answer", "r"), ("lose", "")]
def finS : List (Str × Str) := [("kept", "lk"), ("pay", ""), ("write", "w"), ("raise", "f"), ("lower", "f"), ("up", "fk"), ("down", "fk"), ("skip", "k"), ("next", ""), ("lose", "")]
def bodS : List (Str × Str) := [("sign", "lk"), ("echo", ""), ("keep", ""), ("kept", "lk"), ("pay", ""), ("write", "w"), ("raise", "f"), ("lower", "f"), ("up", "fk"), ("down", "fk"), ("skip", "k"), ("next", ""), ("lose", "")]
def tabS (part : Str) : List (Str × Str) := if part = "orders" then numS else if part = "body" then bodS else finS
def shp (part word : Str) : Option Str := (tabS part).lookup word
def osV : Option Str → V
  | none => .non
  | some z => .str z
theorem osV_of (l : List (Str × Str)) (z : Str) : ((l.map fun q => (q.1, V.str q.2)).lookup z).getD .non = osV (l.lookup z) := by
  rw [lookup_mapV]
  cases l.lookup z <;> rfl
theorem shp_mem {part word s : Str} (h : shp part word = some s) : s ∈ (["rn", "rr", "rrr", "rrn", "rd", "rrk", "k", "r", "", "lk", "w", "f", "fk"] : List Str) := by
  have key : ∀ l : List (Str × Str), (l.all fun q => decide (q.2 ∈ (["rn", "rr", "rrr", "rrn", "rd", "rrk", "k", "r", "", "lk", "w", "f", "fk"] : List Str))) = true → l.lookup word = some s → s ∈ (["rn", "rr", "rrr", "rrn", "rd", "rrk", "k", "r", "", "lk", "w", "f", "fk"] : List Str) :=
    fun l ha hl => of_decide_eq_true (List.all_eq_true.mp ha _ (lookup_inL hl))
  unfold shp tabS at h
  split at h
  · exact key numS (by decide +kernel) h
  · split at h
    · exact key bodS (by decide +kernel) h
    · exact key finS (by decide +kernel) h
theorem shp_asc {part word s : Str} (h : shp part word = some s) : s.cps.all (· < 128) = true ∧ s.length ≤ 16777216 := by
  have m := shp_mem h
  have k : ∀ x ∈ (["rn", "rr", "rrr", "rrn", "rd", "rrk", "k", "r", "", "lk", "w", "f", "fk"] : List Str), x.cps.all (· < 128) = true ∧ x.length ≤ 16777216 := by decide +kernel
  exact k s m
def inR (d : PyData) (lo hi : Int) : Bool := match d with
  | .int i => decide (lo ≤ i ∧ i ≤ hi)
  | _ => false
def oneIn (d : PyData) (ls : Str) : Bool := match d with
  | .str y => (match y.cps.toList with
    | [c] => decide (c ∈ ls.cps.toList)
    | _ => false)
  | _ => false
def fitsD (z : Str) (d : PyData) (b : Int) (ls : Str) : Bool :=
  if z = "r" then inR d 0 7 else if z = "f" then inR d 0 3 else if z = "d" then inR d 1 6 else if z = "k" then inR d 0 b else if z = "l" then oneIn d ls else true
/-- of the kind that the letter asks -/
def fitT (z : Str) : PyData → Prop
  | .int _ => ¬ z = "l"
  | .str _ => ¬ z = "r" ∧ ¬ z = "f" ∧ ¬ z = "d" ∧ ¬ z = "k"
  | _ => False
def allowD (ds : List PyData) (part : Str) (bh : Int) (ls : Str) : Bool := match ds with
  | .str word :: rest => (match shp part word with
    | none => false
    | some s => decide (rest.length = s.cps.size) && ((s.cps.toList.zip rest).all fun q => fitsD ⟨#[q.1]⟩ q.2 bh ls))
  | _ => false
def OrdT (part : Str) (ds : List PyData) : Prop := ds = [] ∨ ∃ word rest, ds = .str word :: rest ∧ ∀ s, shp part word = some s → rest.length = s.cps.size → ∀ q ∈ s.cps.toList.zip rest, fitT ⟨#[q.1]⟩ q.2
def spFits : Sp := sp4 fun a b c e H Q E => ∃ (z : Str) (d : PyData) (bh : Int) (ls : Str), a = .str z ∧ Im H b d ∧ c = .int bh ∧ e = .str ls ∧ fitT z d ∧ (∀ y, d = .str y → y.length ≤ 16777216) ∧ Q (.bl (fitsD z d bh ls)) H
theorem u_fits {z : Str} {b : V} {d : PyData} {bh : Int} {ls : Str} {H : Hp} {Q : VK} {E : XK} (h : Im H b d) (t : fitT z d) (hz : ∀ y, d = .str y → y.length ≤ 16777216) (q : Q (.bl (fitsD z d bh ls)) H) : spFits [.str z, b, .int bh, .str ls] H Q E := ⟨_, _, _, _, rfl, z, d, bh, ls, rfl, h, rfl, rfl, t, hz, q⟩
def spShape : Sp := sp2 fun a b H Q E => ∃ (part word : Str), a = .str part ∧ b = .str word ∧ Q (osV (shp part word)) H
theorem u_shape {part word : Str} {H : Hp} {Q : VK} {E : XK} (q : Q (osV (shp part word)) H) : spShape [.str part, .str word] H Q E := ⟨_, _, rfl, part, word, rfl, rfl, q⟩
def spAllowed : Sp := sp4 fun a b c e H Q E => ∃ (p : Addr) (vs : List V) (ds : List PyData) (part : Str) (bh : Int) (ls : Str), a = .ref p ∧ H p = some (.tup vs) ∧ ImAll H vs ds ∧ b = .str part ∧ c = .int bh ∧ e = .str ls ∧ OrdT part ds ∧ ds.length ≤ 1000 ∧ (∀ y, PyData.str y ∈ ds → y.length ≤ 16777216) ∧ ∀ H', Fr [] H H' → Q (.bl (allowD ds part bh ls)) H'
theorem u_allowed {p : Addr} {vs : List V} {ds : List PyData} {part : Str} {bh : Int} {ls : Str} {H : Hp} {Q : VK} {E : XK} (h : H p = some (.tup vs)) (hd : ImAll H vs ds) (ok : OrdT part ds) (hl : ds.length ≤ 1000) (hz : ∀ y, PyData.str y ∈ ds → y.length ≤ 16777216) (q : ∀ H', Fr [] H H' → Q (.bl (allowD ds part bh ls)) H') :
    spAllowed [.ref p, .str part, .int bh, .str ls] H Q E := ⟨_, _, _, _, rfl, p, vs, ds, part, bh, ls, rfl, h, hd, rfl, rfl, rfl, ok, hl, hz, q⟩
theorem bnd_none {z : Str} (h1 : ¬ z = "r") (h2 : ¬ z = "f") : ([("r", .int 8), ("f", .int 4)] : List (Str × V)).lookup z = none := by
  rw [List.lookup_cons, beq_eq_false_iff_ne.mpr h1, List.lookup_cons, beq_eq_false_iff_ne.mpr h2]
  rfl
theorem one_len {y : Str} (h : (y.length : Int) = 1) : ∃ c, y = ⟨#[c]⟩ := by
  obtain ⟨⟨l⟩⟩ := y
  have h2 : l.length = 1 := by
    have : (⟨⟨l⟩⟩ : Str).length = l.length := rfl
    omega
  match l, h2 with
  | [c], _ => exact ⟨c, rfl⟩
theorem oneIn_not {y ls : Str} (h : ¬ (y.length : Int) = 1) : oneIn (.str y) ls = false := by
  obtain ⟨⟨l⟩⟩ := y
  have h2 : ¬ l.length = 1 := fun e => h (by have : (⟨⟨l⟩⟩ : Str).length = l.length := rfl; omega)
  cases l with
  | nil => rfl
  | cons a r => cases r with
    | nil => exact absurd rfl h2
    | cons b r => rfl
theorem fits_r {d : PyData} {b : Int} {ls : Str} : fitsD "r" d b ls = inR d 0 7 := by unfold fitsD; rw [if_pos rfl]
theorem fits_f {d : PyData} {b : Int} {ls : Str} : fitsD "f" d b ls = inR d 0 3 := by unfold fitsD; rw [if_neg (by decide +kernel), if_pos rfl]
theorem fits_d {d : PyData} {b : Int} {ls : Str} : fitsD "d" d b ls = inR d 1 6 := by unfold fitsD; rw [if_neg (by decide +kernel), if_neg (by decide +kernel), if_pos rfl]
theorem fits_k {d : PyData} {b : Int} {ls : Str} : fitsD "k" d b ls = inR d 0 b := by unfold fitsD; rw [if_neg (by decide +kernel), if_neg (by decide +kernel), if_neg (by decide +kernel), if_pos rfl]
theorem fits_l {d : PyData} {b : Int} {ls : Str} : fitsD "l" d b ls = oneIn d ls := by unfold fitsD; rw [if_neg (by decide +kernel), if_neg (by decide +kernel), if_neg (by decide +kernel), if_neg (by decide +kernel), if_pos rfl]
theorem fits_x {z : Str} {d : PyData} {b : Int} {ls : Str} (h1 : ¬ z = "r") (h2 : ¬ z = "f") (h3 : ¬ z = "d") (h4 : ¬ z = "k") (h5 : ¬ z = "l") : fitsD z d b ls = true := by unfold fitsD; rw [if_neg h1, if_neg h2, if_neg h3, if_neg h4, if_neg h5]
theorem inR_c {i lo hi : Int} : inR (.int i) lo hi = decide (lo ≤ i ∧ i ≤ hi) := rfl
theorem q_of {Q : VK} {H : Hp} {a b : Bool} (q : Q (.bl a) H) (e : a = b) : Q (.bl b) H := e ▸ q
/-! ### orders that are in order pass the check -/
theorem al_mk {part word s : Str} {rest : List PyData} {b : Int} {ls : Str} (hs : shp part word = some s) (cs : List Nat) (hc : s.cps.toList = cs) (hl : rest.length = cs.length) (ha : ∀ q ∈ cs.zip rest, fitsD ⟨#[q.1]⟩ q.2 b ls = true ∧ fitT ⟨#[q.1]⟩ q.2) :
    allowD (.str word :: rest) part b ls = true ∧ OrdT part (.str word :: rest) := by
  subst hc
  have hz : rest.length = s.cps.size := by rw [hl]; exact Array.length_toList
  constructor
  · show (match shp part word with
      | none => false
      | some s => decide (rest.length = s.cps.size) && ((s.cps.toList.zip rest).all fun q => fitsD ⟨#[q.1]⟩ q.2 b ls)) = true
    rw [hs]
    show (decide (rest.length = s.cps.size) && _) = true
    rw [decide_eq_true hz, Bool.true_and]
    exact List.all_eq_true.mpr fun q hq => (ha q hq).1
  · refine .inr ⟨word, rest, rfl, fun s' hs' hl' q hq => ?_⟩
    rw [hs] at hs'
    cases hs'
    exact (ha q hq).2
theorem l_r {r b : Int} {ls : Str} (h : 0 ≤ r ∧ r < 8) : fitsD ⟨#[114]⟩ (.int r) b ls = true ∧ fitT ⟨#[114]⟩ (.int r) := by
  have e : (⟨#[114]⟩ : Str) = "r" := by decide +kernel
  rw [e, fits_r]
  exact ⟨decide_eq_true ⟨h.1, by have := h.2; omega⟩, show ¬ ("r" : Str) = "l" by decide +kernel⟩
theorem l_n {r b : Int} {ls : Str} : fitsD ⟨#[110]⟩ (.int r) b ls = true ∧ fitT ⟨#[110]⟩ (.int r) := by
  have e : (⟨#[110]⟩ : Str) = "n" := by decide +kernel
  rw [e]
  exact ⟨fits_x (by decide +kernel) (by decide +kernel) (by decide +kernel) (by decide +kernel) (by decide +kernel), show ¬ ("n" : Str) = "l" by decide +kernel⟩
theorem l_d {r b : Int} {ls : Str} (h : 1 ≤ r ∧ r ≤ 6) : fitsD ⟨#[100]⟩ (.int r) b ls = true ∧ fitT ⟨#[100]⟩ (.int r) := by
  have e : (⟨#[100]⟩ : Str) = "d" := by decide +kernel
  rw [e, fits_d]
  exact ⟨decide_eq_true h, show ¬ ("d" : Str) = "l" by decide +kernel⟩
theorem l_k {r b : Int} {ls : Str} (h : 0 ≤ r ∧ r ≤ b) : fitsD ⟨#[107]⟩ (.int r) b ls = true ∧ fitT ⟨#[107]⟩ (.int r) := by
  have e : (⟨#[107]⟩ : Str) = "k" := by decide +kernel
  rw [e, fits_k]
  exact ⟨decide_eq_true h, show ¬ ("k" : Str) = "l" by decide +kernel⟩
theorem l_f {r b : Int} {ls : Str} (h : 0 ≤ r ∧ r < 4) : fitsD ⟨#[102]⟩ (.int r) b ls = true ∧ fitT ⟨#[102]⟩ (.int r) := by
  have e : (⟨#[102]⟩ : Str) = "f" := by decide +kernel
  rw [e, fits_f]
  exact ⟨decide_eq_true ⟨h.1, by have := h.2; omega⟩, show ¬ ("f" : Str) = "l" by decide +kernel⟩
theorem l_l {c : Nat} {b : Int} {ls : Str} (h : c ∈ ls.cps.toList) : fitsD ⟨#[108]⟩ (.str ⟨#[c]⟩) b ls = true ∧ fitT ⟨#[108]⟩ (.str ⟨#[c]⟩) := by
  have e : (⟨#[108]⟩ : Str) = "l" := by decide +kernel
  rw [e, fits_l]
  exact ⟨decide_eq_true h, show ¬ ("l" : Str) = "r" ∧ ¬ ("l" : Str) = "f" ∧ ¬ ("l" : Str) = "d" ∧ ¬ ("l" : Str) = "k" by decide +kernel⟩
theorem l_w {z : Str} {b : Int} {ls : Str} : fitsD ⟨#[119]⟩ (.str z) b ls = true ∧ fitT ⟨#[119]⟩ (.str z) := by
  have e : (⟨#[119]⟩ : Str) = "w" := by decide +kernel
  rw [e]
  exact ⟨fits_x (by decide +kernel) (by decide +kernel) (by decide +kernel) (by decide +kernel) (by decide +kernel), show ¬ ("w" : Str) = "r" ∧ ¬ ("w" : Str) = "f" ∧ ¬ ("w" : Str) = "d" ∧ ¬ ("w" : Str) = "k" by decide +kernel⟩
/-- the value is a tuple of this data -/
def DsAt (H : Hp) (v : V) (ds : List PyData) : Prop := ∃ p ws, v = .ref p ∧ H p = some (.tup ws) ∧ ImAll H ws ds
theorem DsAt.fr {S : List Addr} {H H' : Hp} {v : V} {ds : List PyData} (f : Fr S H H') (h : DsAt H v ds) : DsAt H' v ds := by
  obtain ⟨p, ws, e, h1, h2⟩ := h
  exact ⟨p, ws, e, f.tup h1, ImAll.fr f _ _ h2⟩
def DssAt (H : Hp) (vs : List V) (dss : List (List PyData)) : Prop := Paired (DsAt H) vs dss
theorem DssAt.fr {S : List Addr} {H H' : Hp} {vs : List V} {dss : List (List PyData)} (f : Fr S H H') (h : DssAt H vs dss) : DssAt H' vs dss := Paired.mapP h fun _ _ q => q.fr f
theorem DssAt.get {H : Hp} : ∀ {vs : List V} {dss : List (List PyData)} {i : Nat} {v : V}, DssAt H vs dss → vs[i]? = some v → ∃ ds, dss[i]? = some ds ∧ DsAt H v ds
  | _, _, _, _, .nil, e => by simp at e
  | _, _, 0, _, .cons a _, e => by simp at e; subst e; exact ⟨_, rfl, a⟩
  | _, _, i + 1, _, .cons _ b, e => by
    obtain ⟨o, h1, h2⟩ := DssAt.get (i := i) b (by simpa using e)
    exact ⟨o, by simpa using h1, h2⟩
theorem DssAt.dp {K : PySem.W.Frag} {H : Hp} : ∀ {vs : List V} {dss : List (List PyData)}, DssAt H vs dss → DpAll K H vs (dss.map PyData.tuple)
  | _, _, .nil => .nil
  | _, _, .cons ⟨p, ws, e, h1, h2⟩ r => .cons (by rw [e]; exact .tup (.of h1) (ImAll.dp _ _ h2)) (DssAt.dp r)
/-- an order in order: what the check asks, and of a kind that can be asked -/
structure OkD (part : Str) (bh : Int) (ls : Str) (ds : List PyData) : Prop where
  al : allowD ds part bh ls = true
  ty : OrdT part ds
  ln : ds.length ≤ 100
  st : ∀ y, PyData.str y ∈ ds → y.length ≤ 16777216
def OkDs (part ls : Str) (dss : List (List PyData)) : Prop := ∀ (i : Nat) ds, dss[i]? = some ds → OkD part ((dss.length : Int) - i - 1) ls ds
def spCheckG : Sp := sp3 fun a b c H Q E => ∃ (part ls : Str) (l : Addr) (vs : List V) (dss : List (List PyData)), a = .str part ∧ b = .ref l ∧ c = .str ls ∧ H l = some (.lst vs) ∧ DssAt H vs dss ∧ OkDs part ls dss ∧ dss.length ≤ 1000 ∧ ∀ H', Fr [] H H' → Q .non H'
theorem u_checkG {part ls : Str} {H : Hp} {l : Addr} {vs : List V} {dss : List (List PyData)} {Q : VK} {E : XK} (h1 : H l = some (.lst vs)) (h2 : DssAt H vs dss) (h3 : OkDs part ls dss) (h4 : dss.length ≤ 1000) (q : ∀ H', Fr [] H H' → Q .non H') : spCheckG [.str part, .ref l, .str ls] H Q E :=
  ⟨_, _, _, rfl, part, ls, l, vs, dss, rfl, rfl, rfl, h1, h2, h3, h4, q⟩
/-- the letters of a text recipe, in order -/
def LetOk (ls : Str) : Prop := ls.length ≤ 26 ∧ ∀ (i c : Nat), ls.cps.toList[i]? = some c → c ∈ ("abcdefghijklmnopqrstuvwxyz" : Str).cps.toList ∧ c ∉ ls.cps.toList.take i
theorem slice_take {z : Str} {k : Nat} (h : k ≤ z.cps.toList.length) : (Txt.slice z none (some (k : Int))).cps.toList = z.cps.toList.take k := by
  rw [← C8.cutS_slice]
  unfold cutS
  rw [HT.sIx_none]
  have e : z.length = z.cps.toList.length := rfl
  rw [e, HT.sIx_nat, Nat.min_eq_left h]
  simp
def spLetters : Sp := sp1 fun a H Q E => ∃ ls : Str, a = .str ls ∧ LetOk ls ∧ Q .non H
theorem u_letters {ls : Str} {H : Hp} {Q : VK} {E : XK} (h : LetOk ls) (q : Q .non H) : spLetters [.str ls] H Q E := ⟨_, rfl, ls, rfl, h, q⟩
/-! ### text recipes -/
inductive Td where
  | sign (c : Nat) (k : Int) | echo | keep | kept (c : Nat) (k : Int) | pay | write (z : Str) | raise (f : Int) | lower (f : Int) | up (f k : Int) | down (f k : Int) | skip (k : Int) | next | lose
def sg1 (c : Nat) : Str := ⟨#[c]⟩
def Td.ds : Td → List PyData
  | .sign c k => [.str "sign", .str (sg1 c), .int k] | .echo => [.str "echo"] | .keep => [.str "keep"] | .kept c k => [.str "kept", .str (sg1 c), .int k] | .pay => [.str "pay"] | .write z => [.str "write", .str z]
  | .raise f => [.str "raise", .int f] | .lower f => [.str "lower", .int f] | .up f k => [.str "up", .int f, .int k] | .down f k => [.str "down", .int f, .int k] | .skip k => [.str "skip", .int k] | .next => [.str "next"] | .lose => [.str "lose"]
def Td.vs : Td → List V
  | .sign c k => [.str "sign", .str (sg1 c), .int k] | .echo => [.str "echo"] | .keep => [.str "keep"] | .kept c k => [.str "kept", .str (sg1 c), .int k] | .pay => [.str "pay"] | .write z => [.str "write", .str z]
  | .raise f => [.str "raise", .int f] | .lower f => [.str "lower", .int f] | .up f k => [.str "up", .int f, .int k] | .down f k => [.str "down", .int f, .int k] | .skip k => [.str "skip", .int k] | .next => [.str "next"] | .lose => [.str "lose"]
def Td.word : Td → Str
  | .sign .. => "sign" | .echo => "echo" | .keep => "keep" | .kept .. => "kept" | .pay => "pay" | .write .. => "write" | .raise .. => "raise" | .lower .. => "lower" | .up .. => "up" | .down .. => "down" | .skip .. => "skip" | .next => "next" | .lose => "lose"
theorem Td.at0 (o : Td) : atI o.vs 0 = some (.str o.word) := by cases o <;> rfl
abbrev Rg4 (r : Int) : Prop := 0 ≤ r ∧ r < 4
abbrev Skp (k b : Int) : Prop := 0 ≤ k ∧ k ≤ b
/-- in order, with so many orders behind it, over these letters -/
def Td.ok (b : Int) (ls : Str) (isB : Bool) : Td → Prop
  | .sign c k => isB = true ∧ c ∈ ls.cps.toList ∧ Skp k b | .echo => isB = true | .keep => isB = true | .kept c k => c ∈ ls.cps.toList ∧ Skp k b | .pay => True | .write z => z.length ≤ 8 ∧ PyData.strOk z = true
  | .raise f => Rg4 f | .lower f => Rg4 f | .up f k => Rg4 f ∧ Skp k b | .down f k => Rg4 f ∧ Skp k b | .skip k => Skp k b | .next => True | .lose => True
/-- what matters to the machine -/
def Td.okM (b : Int) : Td → Prop
  | .sign _ k => Skp k b | .kept _ k => Skp k b | .write z => z.length ≤ 8 ∧ PyData.strOk z = true
  | .raise f => Rg4 f | .lower f => Rg4 f | .up f k => Rg4 f ∧ Skp k b | .down f k => Rg4 f ∧ Skp k b | .skip k => Skp k b | _ => True
theorem Td.ok.m {b : Int} {ls : Str} {i : Bool} {o : Td} (h : o.ok b ls i) : o.okM b := by
  cases o <;> first | exact h.2.2 | exact h.2 | exact h | exact True.intro
def TAt (H : Hp) (v : V) (o : Td) : Prop := ∃ p, v = .ref p ∧ H p = some (.tup o.vs)
theorem TAt.fr {S : List Addr} {H H' : Hp} {v : V} {o : Td} (f : Fr S H H') (h : TAt H v o) : TAt H' v o := by
  obtain ⟨p, e, h⟩ := h
  exact ⟨p, e, f.tup h⟩
def TAts (H : Hp) (vs : List V) (os : List Td) : Prop := Paired (TAt H) vs os
theorem TAts.fr {S : List Addr} {H H' : Hp} {vs : List V} {os : List Td} (f : Fr S H H') (h : TAts H vs os) : TAts H' vs os := Paired.mapP h fun _ _ q => q.fr f
theorem TAts.app {H : Hp} {v : V} {o : Td} (h' : TAt H v o) : ∀ {vs : List V} {os : List Td}, TAts H vs os → TAts H (vs ++ [v]) (os ++ [o])
  | _, _, .nil => .cons h' .nil
  | _, _, .cons a b => .cons a (TAts.app h' b)
theorem TAts.get {H : Hp} : ∀ {vs : List V} {os : List Td} {i : Nat} {v : V}, TAts H vs os → vs[i]? = some v → ∃ o, os[i]? = some o ∧ TAt H v o
  | _, _, _, _, .nil, e => by simp at e
  | _, _, 0, _, .cons a _, e => by simp at e; subst e; exact ⟨_, rfl, a⟩
  | _, _, i + 1, _, .cons _ b, e => by
    obtain ⟨o, h1, h2⟩ := TAts.get (i := i) b (by simpa using e)
    exact ⟨o, by simpa using h1, h2⟩
theorem Td.im {H : Hp} (o : Td) : ImAll H o.vs o.ds := by
  cases o <;> (repeat' first | exact ImAll.nil | apply ImAll.cons | exact Im.str _ | exact Im.int _)
theorem TAts.dss {H : Hp} : ∀ {vs : List V} {os : List Td}, TAts H vs os → DssAt H vs (os.map Td.ds)
  | _, _, .nil => .nil
  | _, _, .cons ⟨p, e, h⟩ r => .cons ⟨p, _, e, h, Td.im _⟩ (TAts.dss r)
theorem TAts.dp {K : PySem.W.Frag} {H : Hp} {vs : List V} {os : List Td} (h : TAts H vs os) : DpAll K H vs (os.map fun o => PyData.tuple o.ds) := by
  have := h.dss.dp (K := K)
  rw [List.map_map] at this
  exact this
theorem Td.len {o : Td} : o.ds.length ≤ 3 := by cases o <;> (simp [Td.ds])
theorem Td.strs {o : Td} {b : Int} (h : o.okM b) : ∀ y, PyData.str y ∈ o.ds → y.length ≤ 8 := by
  intro y hy
  cases o with
  | write z =>
    have hz : z.length ≤ 8 := h.1
    simp only [Td.ds, List.mem_cons, List.not_mem_nil, or_false, PyData.str.injEq] at hy
    rcases hy with rfl | rfl
    · decide +kernel
    · exact hz
  | sign c k =>
    simp only [Td.ds, List.mem_cons, List.not_mem_nil, or_false, PyData.str.injEq, reduceCtorEq] at hy
    rcases hy with rfl | rfl
    · decide +kernel
    · show 1 ≤ 8; decide
  | kept c k =>
    simp only [Td.ds, List.mem_cons, List.not_mem_nil, or_false, PyData.str.injEq, reduceCtorEq] at hy
    rcases hy with rfl | rfl
    · decide +kernel
    · show 1 ≤ 8; decide
  | _ =>
    simp only [Td.ds, List.mem_cons, List.not_mem_nil, or_false, PyData.str.injEq, reduceCtorEq] at hy
    subst hy
    decide +kernel
def partN (isB : Bool) : Str := if isB = true then "body" else "finish"
theorem Td.okD {o : Td} {b : Int} {ls : Str} {isB : Bool} (h : o.ok b ls isB) : OkD (partN isB) b ls o.ds := by
  suffices hs : allowD o.ds (partN isB) b ls = true ∧ OrdT (partN isB) o.ds from ⟨hs.1, hs.2, by have := Td.len (o := o); omega, fun y hy => Nat.le_trans (Td.strs h.m y hy) (by decide)⟩
  cases o with
  | sign c k =>
    obtain ⟨rfl, hc, hk⟩ := h
    refine al_mk (s := "lk") (by decide +kernel) [108, 107] (by decide +kernel) rfl fun q hq => ?_
    simp only [List.zip_cons_cons, List.zip_nil_right, List.mem_cons, List.not_mem_nil, or_false] at hq
    rcases hq with rfl | rfl
    · exact l_l hc
    · exact l_k hk
  | echo =>
    obtain rfl : isB = true := h
    exact al_mk (s := "") (by decide +kernel) [] (by decide +kernel) rfl fun q hq => by simp at hq
  | keep =>
    obtain rfl : isB = true := h
    exact al_mk (s := "") (by decide +kernel) [] (by decide +kernel) rfl fun q hq => by simp at hq
  | kept c k =>
    obtain ⟨hc, hk⟩ := h
    refine al_mk (s := "lk") (by cases isB <;> decide +kernel) [108, 107] (by decide +kernel) rfl fun q hq => ?_
    simp only [List.zip_cons_cons, List.zip_nil_right, List.mem_cons, List.not_mem_nil, or_false] at hq
    rcases hq with rfl | rfl
    · exact l_l hc
    · exact l_k hk
  | write z =>
    refine al_mk (s := "w") (by cases isB <;> decide +kernel) [119] (by decide +kernel) rfl fun q hq => ?_
    simp only [List.zip_cons_cons, List.zip_nil_right, List.mem_cons, List.not_mem_nil, or_false] at hq
    subst hq
    exact l_w
  | raise f =>
    refine al_mk (s := "f") (by cases isB <;> decide +kernel) [102] (by decide +kernel) rfl fun q hq => ?_
    simp only [List.zip_cons_cons, List.zip_nil_right, List.mem_cons, List.not_mem_nil, or_false] at hq
    subst hq
    exact l_f h
  | lower f =>
    refine al_mk (s := "f") (by cases isB <;> decide +kernel) [102] (by decide +kernel) rfl fun q hq => ?_
    simp only [List.zip_cons_cons, List.zip_nil_right, List.mem_cons, List.not_mem_nil, or_false] at hq
    subst hq
    exact l_f h
  | up f k =>
    refine al_mk (s := "fk") (by cases isB <;> decide +kernel) [102, 107] (by decide +kernel) rfl fun q hq => ?_
    simp only [List.zip_cons_cons, List.zip_nil_right, List.mem_cons, List.not_mem_nil, or_false] at hq
    rcases hq with rfl | rfl
    · exact l_f h.1
    · exact l_k h.2
  | down f k =>
    refine al_mk (s := "fk") (by cases isB <;> decide +kernel) [102, 107] (by decide +kernel) rfl fun q hq => ?_
    simp only [List.zip_cons_cons, List.zip_nil_right, List.mem_cons, List.not_mem_nil, or_false] at hq
    rcases hq with rfl | rfl
    · exact l_f h.1
    · exact l_k h.2
  | skip k =>
    refine al_mk (s := "k") (by cases isB <;> decide +kernel) [107] (by decide +kernel) rfl fun q hq => ?_
    simp only [List.zip_cons_cons, List.zip_nil_right, List.mem_cons, List.not_mem_nil, or_false] at hq
    subst hq
    exact l_k h
  | pay => exact al_mk (s := "") (by cases isB <;> decide +kernel) [] (by decide +kernel) rfl fun q hq => by simp at hq
  | next => exact al_mk (s := "") (by cases isB <;> decide +kernel) [] (by decide +kernel) rfl fun q hq => by simp at hq
  | lose => exact al_mk (s := "") (by cases isB <;> decide +kernel) [] (by decide +kernel) rfl fun q hq => by simp at hq
def TOks (ls : Str) (isB : Bool) (os : List Td) : Prop := ∀ (i : Nat) o, os[i]? = some o → o.ok ((os.length : Int) - i - 1) ls isB
def TOksM (os : List Td) : Prop := ∀ (i : Nat) o, os[i]? = some o → o.okM ((os.length : Int) - i - 1)
theorem TOks.m {ls : Str} {b : Bool} {os : List Td} (h : TOks ls b os) : TOksM os := fun i o e => (h i o e).m
theorem TOks.dss {ls : Str} {b : Bool} {os : List Td} (h : TOks ls b os) : OkDs (partN b) ls (os.map Td.ds) := fun i ds e => by
  rw [List.getElem?_map] at e
  cases e2 : os[i]? with
  | none => rw [e2] at e; cases e
  | some o =>
    rw [e2] at e
    cases e
    have := Td.okD (h i o e2)
    rw [List.length_map]
    exact this
/-! ### the machine -/
structure TS where
  fl : List Bool
  kp : Str
  wr : Str
def eff (st : TS) (sg : Str) : Td → TS
  | .echo => { st with wr := st.wr ++ sg }
  | .keep => { st with kp := sg }
  | .pay => { st with wr := st.wr ++ st.kp, kp := "" }
  | .write z => { st with wr := st.wr ++ z }
  | .raise f => { st with fl := st.fl.set f.toNat true }
  | .lower f => { st with fl := st.fl.set f.toNat false }
  | _ => st
def skT (st : TS) (sg : Str) : Td → Int
  | .skip k => k
  | .sign c k => if sg1 c = sg then 0 else k
  | .kept c k => if sg1 c = st.kp then 0 else k
  | .up f k => if st.fl.getD f.toNat false = true then 0 else k
  | .down f k => if st.fl.getD f.toNat false = true then k else 0
  | _ => 0
def trun (os : List Td) (sg : Str) : Nat → Nat → TS → TS × Bool
  | 0, _, st => (st, true)
  | f + 1, a, st => match os[a]? with
    | none => (st, true)
    | some .next => (st, true)
    | some .lose => (st, false)
    | some o => trun os sg f (a + 1 + (skT st sg o).toNat) (eff st sg o)
def trunO (os : List Td) (sg : Str) (st : TS) : TS × Bool := trun os sg os.length 0 st
theorem trun_end {os : List Td} {sg : Str} {f a : Nat} {st : TS} (h : os.length ≤ a) : trun os sg f a st = (st, true) := by
  cases f with
  | zero => rfl
  | succ f => unfold trun; rw [List.getElem?_eq_none h]
theorem trun_fuel {os : List Td} {sg : Str} : ∀ (f g a : Nat) (st : TS), os.length ≤ a + f → os.length ≤ a + g → trun os sg f a st = trun os sg g a st
  | 0, g, a, st, hf, _ => by rw [trun_end (by omega), trun_end (by omega)]
  | f + 1, 0, a, st, _, hg => by rw [trun_end (by omega), trun_end (by omega)]
  | f + 1, g + 1, a, st, hf, hg => by
    unfold trun
    split
    · rfl
    · rfl
    · rfl
    · exact trun_fuel f g _ _ (by omega) (by omega)
theorem trun_step {os : List Td} {sg : Str} {f a : Nat} {st : TS} {o : Td} (e : os[a]? = some o) (h1 : ¬ o.word = "next") (h2 : ¬ o.word = "lose") : trun os sg (f + 1) a st = trun os sg f (a + 1 + (skT st sg o).toNat) (eff st sg o) := by
  rw [trun, e]
  cases o <;> first | rfl | exact absurd rfl h1 | exact absurd rfl h2
theorem Td.isNext {o : Td} (h : o.word = "next") : o = .next := by
  cases o <;> first | rfl | exact absurd h (by simp only [Td.word]; decide +kernel)
theorem Td.isLose {o : Td} (h : o.word = "lose") : o = .lose := by
  cases o <;> first | rfl | exact absurd h (by simp only [Td.word]; decide +kernel)
theorem skT_eff {st : TS} {sg : Str} (o : Td) : skT (eff st sg o) sg o = skT st sg o := by cases o <;> rfl
theorem skT_nn {st : TS} {sg : Str} {o : Td} {b : Int} (h : o.okM b) : 0 ≤ skT st sg o := by
  cases o <;> simp only [Td.okM] at h <;> simp only [skT] <;> (try split) <;> omega
theorem eff_fl {st : TS} {sg : Str} (o : Td) : (eff st sg o).fl.length = st.fl.length := by cases o <;> simp [eff]
/-- a sign, or none -/
def SgOk (sg : Str) : Prop := sg.length ≤ 1 ∧ PyData.strOk sg = true
theorem strOk_app {a b : Str} (ha : PyData.strOk a = true) (hb : PyData.strOk b = true) : PyData.strOk (a ++ b) = true := by
  show (a.cps ++ b.cps).all (· < 0x110000) = true
  rw [Array.all_append]
  exact Bool.and_eq_true_iff.mpr ⟨ha, hb⟩
theorem strOk_mem {ls : Str} {c : Nat} (h : PyData.strOk ls = true) (hc : c ∈ ls.cps.toList) : PyData.strOk (sg1 c) = true := by
  have h1 : ls.cps.toList.all (· < 0x110000) = true := by rw [Array.all_toList]; exact h
  have h2 := List.all_eq_true.mp h1 c hc
  show (#[c] : Array Nat).all (· < 0x110000) = true
  rw [← Array.all_toList]
  simpa using h2
theorem eff_kp {st : TS} {sg : Str} (o : Td) (h : st.kp.length ≤ 1) (hs : SgOk sg) : (eff st sg o).kp.length ≤ 1 := by
  cases o <;> first | exact h | exact hs.1 | (show (0 : Nat) ≤ 1; decide)
theorem str_app (a b : Str) : (a ++ b).length = a.length + b.length := by
  show (a.cps ++ b.cps).size = a.cps.size + b.cps.size
  exact Array.size_append
theorem eff_wr {st : TS} {sg : Str} {o : Td} {b : Int} (ok : o.okM b) (h : st.kp.length ≤ 1) (hs : SgOk sg) : (eff st sg o).wr.length ≤ st.wr.length + 8 := by
  have hs := hs.1
  cases o with
  | echo => show (st.wr ++ sg).length ≤ _; rw [str_app]; omega
  | pay => show (st.wr ++ st.kp).length ≤ _; rw [str_app]; omega
  | write z => have hz : z.length ≤ 8 := ok.1; show (st.wr ++ z).length ≤ _; rw [str_app]; omega
  | _ => exact Nat.le_add_right _ _
/-- what stays of a state -/
structure TSok (st : TS) (W : Nat) : Prop where
  fl : st.fl.length = 4
  kp : st.kp.length ≤ 1
  wr : st.wr.length ≤ W
  so : PyData.strOk st.kp = true ∧ PyData.strOk st.wr = true
theorem eff_so {st : TS} {sg : Str} {o : Td} {b : Int} (ok : o.okM b) (hs : SgOk sg) (h : PyData.strOk st.kp = true ∧ PyData.strOk st.wr = true) : PyData.strOk (eff st sg o).kp = true ∧ PyData.strOk (eff st sg o).wr = true := by
  cases o with
  | echo => exact ⟨h.1, strOk_app h.2 hs.2⟩
  | keep => exact ⟨hs.2, h.2⟩
  | pay => exact ⟨show PyData.strOk "" = true by decide +kernel, strOk_app h.2 h.1⟩
  | write z => exact ⟨h.1, strOk_app h.2 ok.2⟩
  | _ => exact h
theorem TSok.eff {st : TS} {W : Nat} {sg : Str} {o : Td} {b : Int} (h : TSok st W) (ok : o.okM b) (hs : SgOk sg) : TSok (eff st sg o) (W + 8) :=
  ⟨(eff_fl o).trans h.fl, eff_kp o h.kp hs, Nat.le_trans (eff_wr ok h.kp hs) (Nat.add_le_add_right h.wr 8), eff_so ok hs h.so⟩
theorem trun_ok {os : List Td} {sg : Str} (ok : TOksM os) (hs : SgOk sg) : ∀ (f a : Nat) (st : TS) (W : Nat), TSok st W → TSok (trun os sg f a st).1 (W + 8 * f)
  | 0, a, st, W, h => h
  | f + 1, a, st, W, h => by
    have w : TSok st (W + 8 * (f + 1)) := ⟨h.fl, h.kp, Nat.le_trans h.wr (Nat.le_add_right _ _), h.so⟩
    unfold trun
    split
    · exact w
    · exact w
    · exact w
    · rename_i o _ _ e
      have := trun_ok ok hs f (a + 1 + (skT st sg o).toNat) _ (W + 8) (h.eff (ok a o e) hs)
      rw [show W + 8 * (f + 1) = W + 8 + 8 * f by omega]
      exact this
/-- the whole text -/
def spellC (ls : Str) (body : List Td) : List Nat → TS → Option TS
  | [], st => some st
  | c :: cs, st => if c ∈ ls.cps.toList then (if (trunO body (sg1 c) st).2 = true then spellC ls body cs (trunO body (sg1 c) st).1 else none) else none
def st0 : TS := ⟨[false, false, false, false], "", ""⟩
def spellO (ls : Str) (body fin : List Td) (cs : List Nat) : Option Str := match spellC ls body cs st0 with
  | none => none
  | some st => if (trunO fin "" st).2 = true then some (trunO fin "" st).1.wr else none
theorem spell_cons {ls : Str} {body : List Td} {c : Nat} {cs : List Nat} {st : TS} (h : c ∈ ls.cps.toList) (h2 : (trunO body (sg1 c) st).2 = true) : spellC ls body (c :: cs) st = spellC ls body cs (trunO body (sg1 c) st).1 := by
  show (if c ∈ ls.cps.toList then _ else _) = _
  rw [if_pos h, if_pos h2]
theorem spell_no {ls : Str} {body : List Td} {c : Nat} {cs : List Nat} {st : TS} (h : ¬ (c ∈ ls.cps.toList ∧ (trunO body (sg1 c) st).2 = true)) : spellC ls body (c :: cs) st = none := by
  show (if c ∈ ls.cps.toList then _ else _) = _
  by_cases h1 : c ∈ ls.cps.toList
  · rw [if_pos h1, if_neg fun h2 => h ⟨h1, h2⟩]
  · rw [if_neg h1]
theorem spellC_ok {ls : Str} {body : List Td} (hls : PyData.strOk ls = true) (ok : TOksM body) : ∀ (cs : List Nat) (st st' : TS) (W : Nat), TSok st W → spellC ls body cs st = some st' → ∃ W', TSok st' W'
  | [], st, st', W, h, e => by cases e; exact ⟨W, h⟩
  | c :: cs, st, st', W, h, e => by
    have e1 : (if c ∈ ls.cps.toList then (if (trunO body (sg1 c) st).2 = true then spellC ls body cs (trunO body (sg1 c) st).1 else none) else none) = some st' := e
    split at e1
    · rename_i hin
      split at e1
      · exact spellC_ok hls ok cs _ _ _ (trun_ok ok (show SgOk (sg1 c) from ⟨Nat.le_refl 1, strOk_mem hls hin⟩) _ _ _ _ h) e1
      · cases e1
    · cases e1
def osDt : Option Str → PyData
  | none => .none
  | some z => .str z
theorem osDt_dp {K : PySem.W.Frag} {H : Hp} (o : Option Str) : Dp K H (osV o) (osDt o) := by cases o <;> constructor
theorem spellO_ok {ls : Str} {body fin : List Td} {cs : List Nat} {n : Nat} (hls : PyData.strOk ls = true) (okb : TOksM body) (okf : TOksM fin) : okD n (osDt (spellO ls body fin cs)) := by
  unfold spellO
  split
  · cases n <;> exact True.intro
  · rename_i st e
    split
    · obtain ⟨W, h⟩ := spellC_ok hls okb cs _ _ 0 ⟨rfl, by decide, by decide, by decide +kernel, by decide +kernel⟩ e
      have h2 := trun_ok okf (show SgOk "" from ⟨by decide, by decide +kernel⟩) fin.length 0 st W h
      cases n <;> exact h2.so.2
    · cases n <;> exact True.intro
/-! ### the speller object -/
def SpAt (K : PySem.W.Frag) (H : Hp) (p dx fl : Addr) (st : TS) : Prop := H p = some (.ins (He.ga K "Speller") dx [("flags", .ref fl), ("kept", .str st.kp), ("written", .str st.wr)]) ∧ H fl = some (.lst (st.fl.map V.bl))
theorem SpAt.ne {K : PySem.W.Frag} {H : Hp} {p dx fl : Addr} {st : TS} (h : SpAt K H p dx fl st) : p ≠ fl := fun e => by
  have h1 := h.1
  rw [e, h.2] at h1
  cases h1
theorem SpAt.fr {K : PySem.W.Frag} {S : List Addr} {H H' : Hp} {p dx fl : Addr} {st : TS} (h : SpAt K H p dx fl st) (f : Fr S H H') (h1 : p ∉ S) (h2 : fl ∉ S) : SpAt K H' p dx fl st := ⟨f.get h.1 h1, f.get h.2 h2⟩
def spSpInit (K : PySem.W.Frag) : Sp := sp3 fun a b c H Q E => ∃ (x dx l : Addr) (xs : List V) (z : Str), a = .ref x ∧ b = .ref l ∧ c = .str z ∧ H x = some (.ins (He.ga K "Speller") dx []) ∧ SqL K H l xs ∧
  ∀ fl H', Fr [x] H H' → H fl = none → H' fl = some (.lst xs) → H' x = some (.ins (He.ga K "Speller") dx [("flags", .ref fl), ("kept", .str z), ("written", .str "")]) → Q .non H'
theorem u_spInit {K : PySem.W.Frag} {H : Hp} {x dx l : Addr} {xs : List V} {z : Str} {Q : VK} {E : XK} (h1 : H x = some (.ins (He.ga K "Speller") dx [])) (h2 : SqL K H l xs)
    (q : ∀ fl H', Fr [x] H H' → H fl = none → H' fl = some (.lst xs) → H' x = some (.ins (He.ga K "Speller") dx [("flags", .ref fl), ("kept", .str z), ("written", .str "")]) → Q .non H') : spSpInit K [.ref x, .ref l, .str z] H Q E := ⟨_, _, _, rfl, x, dx, l, xs, z, rfl, rfl, rfl, h1, h2, q⟩
def spDo (K : PySem.W.Frag) : Sp := sp3 fun a b c H Q E => ∃ (p dx fl : Addr) (st : TS) (o : Td) (sg : Str), a = .ref p ∧ SpAt K H p dx fl st ∧ TAt H b o ∧ c = .str sg ∧ (∃ bh, o.okM bh) ∧ SgOk sg ∧ TSok st 16000000 ∧
  ∀ H', Fr [p, fl] H H' → SpAt K H' p dx fl (eff st sg o) → Q .non H'
theorem u_do {K : PySem.W.Frag} {H : Hp} {p dx fl : Addr} {st : TS} {o : Td} {sg : Str} {t : V} {bh : Int} {Q : VK} {E : XK} (h : SpAt K H p dx fl st) (ht : TAt H t o) (ok : o.okM bh) (hs : SgOk sg) (hw : TSok st 16000000)
    (q : ∀ H', Fr [p, fl] H H' → SpAt K H' p dx fl (eff st sg o) → Q .non H') : spDo K [.ref p, t, .str sg] H Q E := ⟨_, _, _, rfl, p, dx, fl, st, o, sg, rfl, h, ht, rfl, ⟨bh, ok⟩, hs, hw, q⟩
def spSkT (K : PySem.W.Frag) : Sp := sp3 fun a b c H Q E => ∃ (p dx fl : Addr) (st : TS) (o : Td) (sg : Str), a = .ref p ∧ SpAt K H p dx fl st ∧ TAt H b o ∧ c = .str sg ∧ (∃ bh, o.okM bh) ∧ TSok st 16000000 ∧ Q (.int (skT st sg o)) H
theorem u_skT {K : PySem.W.Frag} {H : Hp} {p dx fl : Addr} {st : TS} {o : Td} {sg : Str} {t : V} {bh : Int} {Q : VK} {E : XK} (h : SpAt K H p dx fl st) (ht : TAt H t o) (ok : o.okM bh) (hw : TSok st 16000000) (q : Q (.int (skT st sg o)) H) : spSkT K [.ref p, t, .str sg] H Q E :=
  ⟨_, _, _, rfl, p, dx, fl, st, o, sg, rfl, h, ht, rfl, ⟨bh, ok⟩, hw, q⟩
def spExT (K : PySem.W.Frag) : Sp := sp3 fun a b c H Q E => ∃ (p dx fl l : Addr) (st : TS) (vs : List V) (os : List Td) (sg : Str) (W : Nat), a = .ref p ∧ b = .ref l ∧ c = .str sg ∧ SpAt K H p dx fl st ∧ H l = some (.lst vs) ∧ l ≠ p ∧ l ≠ fl ∧ TAts H vs os ∧ TOksM os ∧ os.length ≤ 1000 ∧ SgOk sg ∧ TSok st W ∧ W ≤ 15000000 ∧
  ∀ t pl H', Fr [p, fl] H H' → SpAt K H' p dx fl (trunO os sg st).1 → H' t = some (.tup [.ref pl, .bl (trunO os sg st).2]) → Q (.ref t) H'
theorem u_exT {K : PySem.W.Frag} {H : Hp} {p dx fl l : Addr} {st : TS} {vs : List V} {os : List Td} {sg : Str} {W : Nat} {Q : VK} {E : XK} (h : SpAt K H p dx fl st) (h1 : H l = some (.lst vs)) (n1 : l ≠ p) (n2 : l ≠ fl) (h2 : TAts H vs os) (h3 : TOksM os) (h4 : os.length ≤ 1000) (hs : SgOk sg) (hw : TSok st W) (hW : W ≤ 15000000)
    (q : ∀ t pl H', Fr [p, fl] H H' → SpAt K H' p dx fl (trunO os sg st).1 → H' t = some (.tup [.ref pl, .bl (trunO os sg st).2]) → Q (.ref t) H') : spExT K [.ref p, .ref l, .str sg] H Q E := ⟨_, _, _, rfl, p, dx, fl, l, st, vs, os, sg, W, rfl, rfl, rfl, h, h1, n1, n2, h2, h3, h4, hs, hw, hW, q⟩
/-- a text recipe object at p -/
structure TxAt (K : PySem.W.Frag) (H : Hp) (p : Addr) (ls : Str) (body fin : List Td) : Prop where
  ex : ∃ (dx bl fl : Addr) (bv fv : List V), H p = some (.ins (He.ga K "TextRecipe") dx [("letters", .str ls), ("body", .ref bl), ("finish", .ref fl)]) ∧ H bl = some (.lst bv) ∧ H fl = some (.lst fv) ∧ TAts H bv body ∧ TAts H fv fin
theorem TxAt.fr {K : PySem.W.Frag} {H H' : Hp} {p : Addr} {ls : Str} {body fin : List Td} (h : TxAt K H p ls body fin) (f : Fr [] H H') : TxAt K H' p ls body fin := by
  obtain ⟨dx, bl, fl, bv, fv, h1, h2, h3, h4, h5⟩ := h.ex
  exact ⟨dx, bl, fl, bv, fv, f.get h1 List.not_mem_nil, f.get h2 List.not_mem_nil, f.get h3 List.not_mem_nil, h4.fr f, h5.fr f⟩
def spTImg (K : PySem.W.Frag) : Sp := sp2 fun a b H Q E => ∃ (p : Addr) (ls : Str) (body fin : List Td) (z : Str), a = .ref p ∧ b = .str z ∧ TxAt K H p ls body fin ∧ PyData.strOk ls = true ∧ TOksM body ∧ TOksM fin ∧ body.length ≤ 400 ∧ fin.length ≤ 400 ∧ z.length ≤ 1000 ∧
  ∀ H', Fr [] H H' → Q (osV (spellO ls body fin z.cps.toList)) H'
theorem u_tImg {K : PySem.W.Frag} {H : Hp} {p : Addr} {ls : Str} {body fin : List Td} {z : Str} {Q : VK} {E : XK} (h : TxAt K H p ls body fin) (hls : PyData.strOk ls = true) (h1 : TOksM body) (h2 : TOksM fin) (h3 : body.length ≤ 400) (h4 : fin.length ≤ 400) (h5 : z.length ≤ 1000) (q : ∀ H', Fr [] H H' → Q (osV (spellO ls body fin z.cps.toList)) H') :
    spTImg K [.ref p, .str z] H Q E := ⟨_, _, rfl, p, ls, body, fin, z, rfl, rfl, h, hls, h1, h2, h3, h4, h5, q⟩
theorem at_flag {fl : List Bool} {r : Int} (hl : fl.length = 4) (h : Rg4 r) : atI (fl.map V.bl) r = some (.bl (fl.getD r.toNat false)) := by
  obtain ⟨k, rfl⟩ := Int.eq_ofNat_of_zero_le h.1
  have hk : k < fl.length := by have := h.2; omega
  refine atI_nat ?_
  rw [List.getElem?_map, List.getElem?_eq_getElem hk]
  simp [List.getD_eq_getElem?_getD, List.getElem?_eq_getElem hk]
theorem ix_flag {fl : List Bool} {r : Int} (hl : fl.length = 4) (h : Rg4 r) : ixN (fl.map V.bl).length r = some r.toNat := by
  unfold ixN
  rw [List.length_map, hl, if_pos h.1, if_pos (show r < ((4 : Nat) : Int) from h.2)]
def spTxInit (K : PySem.W.Frag) : Sp := sp4 fun a b c e H Q E => ∃ (x dx bl fl : Addr) (bv fv : List V) (ls : Str) (body fin : List Td), a = .ref x ∧ b = .str ls ∧ c = .ref bl ∧ e = .ref fl ∧ H x = some (.ins (He.ga K "TextRecipe") dx []) ∧ H bl = some (.lst bv) ∧ H fl = some (.lst fv) ∧
  TAts H bv body ∧ TAts H fv fin ∧ TOks ls true body ∧ TOks ls false fin ∧ LetOk ls ∧ body.length + fin.length ≤ 400 ∧
  ∀ b2 f2 H', Fr [x] H H' → H b2 = none → H f2 = none → H' x = some (.ins (He.ga K "TextRecipe") dx [("letters", .str ls), ("body", .ref b2), ("finish", .ref f2)]) → H' b2 = some (.lst bv) → H' f2 = some (.lst fv) → Q .non H'
theorem u_txInit {K : PySem.W.Frag} {H : Hp} {x dx bl fl : Addr} {bv fv : List V} {ls : Str} {body fin : List Td} {Q : VK} {E : XK} (h0 : H x = some (.ins (He.ga K "TextRecipe") dx [])) (h1 : H bl = some (.lst bv)) (h2 : H fl = some (.lst fv)) (h3 : TAts H bv body) (h4 : TAts H fv fin) (h5 : TOks ls true body) (h6 : TOks ls false fin) (h7 : LetOk ls) (h8 : body.length + fin.length ≤ 400)
    (q : ∀ b2 f2 H', Fr [x] H H' → H b2 = none → H f2 = none → H' x = some (.ins (He.ga K "TextRecipe") dx [("letters", .str ls), ("body", .ref b2), ("finish", .ref f2)]) → H' b2 = some (.lst bv) → H' f2 = some (.lst fv) → Q .non H') : spTxInit K [.ref x, .str ls, .ref bl, .ref fl] H Q E :=
  ⟨_, _, _, _, rfl, x, dx, bl, fl, bv, fv, ls, body, fin, rfl, rfl, rfl, rfl, h0, h1, h2, h3, h4, h5, h6, h7, h8, q⟩
/-! ### the law's own machine: a dict -/
def WdAt (H : Hp) (d fl : Addr) (st : TS) : Prop := H d = some (.dK [(.inr "flags", .ref fl), (.inr "kept", .str st.kp), (.inr "written", .str st.wr)]) ∧ H fl = some (.lst (st.fl.map V.bl))
theorem WdAt.ne {H : Hp} {d fl : Addr} {st : TS} (h : WdAt H d fl st) : d ≠ fl := fun e => by
  have h1 := h.1
  rw [e, h.2] at h1
  cases h1
theorem WdAt.fr {S : List Addr} {H H' : Hp} {d fl : Addr} {st : TS} (h : WdAt H d fl st) (f : Fr S H H') (h1 : d ∉ S) (h2 : fl ∉ S) : WdAt H' d fl st := ⟨f.get h.1 h1, f.get h.2 h2⟩
theorem kne {a b : Str} (h : ¬ a = b) : ¬ (Sum.inr a : Key) = Sum.inr b := fun e => h (Sum.inr.inj e)
theorem wd_f {f k w : V} : valV [((.inr "flags" : Key), f), (.inr "kept", k), (.inr "written", w)] (.inr "flags") = some f := valV_pos rfl
theorem wd_k {f k w : V} : valV [((.inr "flags" : Key), f), (.inr "kept", k), (.inr "written", w)] (.inr "kept") = some k := (valV_neg (kne (a := "flags") (b := "kept") (by decide +kernel))).trans (valV_pos rfl)
theorem wd_w {f k w : V} : valV [((.inr "flags" : Key), f), (.inr "kept", k), (.inr "written", w)] (.inr "written") = some w := (valV_neg (kne (a := "flags") (b := "written") (by decide +kernel))).trans ((valV_neg (kne (a := "kept") (b := "written") (by decide +kernel))).trans (valV_pos rfl))
theorem wp_k {f k w v : V} : putK [((.inr "flags" : Key), f), (.inr "kept", k), (.inr "written", w)] (.inr "kept") v = [(.inr "flags", f), (.inr "kept", v), (.inr "written", w)] := by
  unfold putK
  rw [if_pos (by rw [valV_any, wd_k]; rfl)]
  simp only [List.map_cons, List.map_nil]
  rw [if_neg (kne (a := "flags") (b := "kept") (by decide +kernel)), if_pos True.intro, if_neg (kne (a := "written") (b := "kept") (by decide +kernel))]
theorem wp_w {f k w v : V} : putK [((.inr "flags" : Key), f), (.inr "kept", k), (.inr "written", w)] (.inr "written") v = [(.inr "flags", f), (.inr "kept", k), (.inr "written", v)] := by
  unfold putK
  rw [if_pos (by rw [valV_any, wd_w]; rfl)]
  simp only [List.map_cons, List.map_nil]
  rw [if_neg (kne (a := "flags") (b := "written") (by decide +kernel)), if_neg (kne (a := "kept") (b := "written") (by decide +kernel)), if_pos True.intro]
def spPart : Sp := sp3 fun a b c H Q E => ∃ (l d fl : Addr) (vs : List V) (os : List Td) (sg : Str) (st : TS) (W : Nat), a = .ref l ∧ b = .ref d ∧ c = .str sg ∧ H l = some (.lst vs) ∧ TAts H vs os ∧ l ≠ fl ∧ WdAt H d fl st ∧ TOksM os ∧ os.length ≤ 1000 ∧ SgOk sg ∧ TSok st W ∧ W ≤ 15000000 ∧
  ∀ H', Fr [d, fl] H H' → WdAt H' d fl (trunO os sg st).1 → Q (.bl (trunO os sg st).2) H'
theorem u_part {H : Hp} {l d fl : Addr} {vs : List V} {os : List Td} {sg : Str} {st : TS} {W : Nat} {Q : VK} {E : XK} (h1 : H l = some (.lst vs)) (h2 : TAts H vs os) (n : l ≠ fl) (h3 : WdAt H d fl st) (h4 : TOksM os) (h5 : os.length ≤ 1000) (h6 : SgOk sg) (h7 : TSok st W) (h8 : W ≤ 15000000)
    (q : ∀ H', Fr [d, fl] H H' → WdAt H' d fl (trunO os sg st).1 → Q (.bl (trunO os sg st).2) H') : spPart [.ref l, .ref d, .str sg] H Q E := ⟨_, _, _, rfl, l, d, fl, vs, os, sg, st, W, rfl, rfl, rfl, h1, h2, n, h3, h4, h5, h6, h7, h8, q⟩
def spSpelt : Sp := sp2 fun a b H Q E => ∃ (r bl fl : Addr) (bv fv : List V) (ls z : Str) (body fin : List Td), a = .ref r ∧ b = .str z ∧ H r = some (.tup [.str ls, .ref bl, .ref fl]) ∧ H bl = some (.lst bv) ∧ H fl = some (.lst fv) ∧ TAts H bv body ∧ TAts H fv fin ∧ PyData.strOk ls = true ∧ TOksM body ∧ TOksM fin ∧ body.length ≤ 400 ∧ fin.length ≤ 400 ∧ z.length ≤ 1000 ∧
  ∀ H', Fr [] H H' → Q (osV (spellO ls body fin z.cps.toList)) H'
theorem u_spelt {H : Hp} {r bl fl : Addr} {bv fv : List V} {ls z : Str} {body fin : List Td} {Q : VK} {E : XK} (h : H r = some (.tup [.str ls, .ref bl, .ref fl])) (h1 : H bl = some (.lst bv)) (h2 : H fl = some (.lst fv)) (h3 : TAts H bv body) (h4 : TAts H fv fin) (hls : PyData.strOk ls = true) (h5 : TOksM body) (h6 : TOksM fin) (h7 : body.length ≤ 400) (h8 : fin.length ≤ 400) (h9 : z.length ≤ 1000)
    (q : ∀ H', Fr [] H H' → Q (osV (spellO ls body fin z.cps.toList)) H') : spSpelt [.ref r, .str z] H Q E := ⟨_, _, rfl, r, bl, fl, bv, fv, ls, z, body, fin, rfl, rfl, h, h1, h2, h3, h4, hls, h5, h6, h7, h8, h9, q⟩
def spTord (K : PySem.W.Frag) : Sp := sp4 fun a b c e H Q E => ∃ (l : Addr) (ls : Str) (b0 : Int) (isB : Bool), a = .ref l ∧ b = .str ls ∧ c = .int b0 ∧ e = .bl isB ∧ 0 ≤ b0 ∧ ls.length ≤ 26 ∧ Dk H l ∧ ∀ o v H', TAt H' v o → o.ok b0 ls isB → Fr [l] H H' → Dk H' l → Q v H'
theorem u_tord {K : PySem.W.Frag} {H : Hp} {l : Addr} {ls : Str} {b0 : Int} {isB : Bool} {Q : VK} {E : XK} (h : Dk H l) (hb : 0 ≤ b0) (hl : ls.length ≤ 26) (q : ∀ o v H', TAt H' v o → o.ok b0 ls isB → Fr [l] H H' → Dk H' l → Q v H') : spTord K [.ref l, .str ls, .int b0, .bl isB] H Q E :=
  ⟨_, _, _, _, rfl, l, ls, b0, isB, rfl, rfl, rfl, rfl, hb, hl, h, q⟩
def tWords : List Str := ["sign", "sign", "sign", "echo", "echo", "keep", "keep", "kept", "kept", "pay", "pay", "write", "write", "raise", "raise", "lower", "up", "up", "down", "skip", "next", "lose"]
theorem tSplit : Txt.split ("sign sign sign echo echo keep keep kept kept pay pay write write raise raise lower up up down skip next" ++ " lose") " " = tWords := by decide +kernel
def tWordsS : List Str := ["sign", "echo", "keep", "kept", "pay", "write", "raise", "lower", "up", "down", "skip", "next", "lose"]
theorem tWords_in : ∀ z ∈ tWords, z ∈ tWordsS := by decide +kernel
def lsAll : List Str := ["a", "ab", "ba", "cab", "dabc", ""]
theorem ls_so {ls : Str} (h : ls ∈ lsAll) : PyData.strOk ls = true := by
  have key : ∀ z ∈ lsAll, PyData.strOk z = true := by decide +kernel
  exact key ls h
theorem ls_ok {ls : Str} (h : ls ∈ lsAll) : LetOk ls ∧ ls.length ≤ 4 := by
  have key : ∀ z ∈ lsAll, (z.length ≤ 26 ∧ ∀ (i : Nat), i < z.cps.toList.length → (z.cps.toList.getD i 0) ∈ ("abcdefghijklmnopqrstuvwxyz" : Str).cps.toList ∧ (z.cps.toList.getD i 0) ∉ z.cps.toList.take i) ∧ z.length ≤ 4 := by decide +kernel
  obtain ⟨⟨h1, h2⟩, h3⟩ := key ls h
  refine ⟨⟨h1, fun i c e => ?_⟩, h3⟩
  have hi := (List.getElem?_eq_some_iff.mp e).1
  have e2 : ls.cps.toList.getD i 0 = c := by rw [List.getD_eq_getElem?_getD, e]; rfl
  rw [← e2]
  exact h2 i hi
def spTrec : Sp := sp1 fun a H Q E => ∃ l, a = .ref l ∧ Dk H l ∧ ∀ r bl fl bv fv ls body fin H', ls ∈ lsAll → H' r = some (.tup [.str ls, .ref bl, .ref fl]) → H' bl = some (.lst bv) → H' fl = some (.lst fv) → TAts H' bv body → TAts H' fv fin → TOks ls true body → TOks ls false fin → body.length ≤ 40 → fin.length ≤ 40 → bl ≠ fl → H bl = none → H fl = none → Fr [l] H H' → Dk H' l → Q (.ref r) H'
theorem u_trec {H : Hp} {l : Addr} {Q : VK} {E : XK} (h : Dk H l) (q : ∀ r bl fl bv fv ls body fin H', ls ∈ lsAll → H' r = some (.tup [.str ls, .ref bl, .ref fl]) → H' bl = some (.lst bv) → H' fl = some (.lst fv) → TAts H' bv body → TAts H' fv fin → TOks ls true body → TOks ls false fin → body.length ≤ 40 → fin.length ≤ 40 → bl ≠ fl → H bl = none → H fl = none → Fr [l] H H' → Dk H' l → Q (.ref r) H') : spTrec [.ref l] H Q E := ⟨_, rfl, l, rfl, h, q⟩
/-- texts, none long -/
def Txs (H : Hp) (l : Addr) (n B : Nat) : Prop := ∃ zs : List Str, H l = some (.lst (zs.map V.str)) ∧ zs.length ≤ n ∧ ∀ z ∈ zs, z.length ≤ B
def spTexts : Sp := sp2 fun a b H Q E => ∃ (l : Addr) (ls : Str), a = .ref l ∧ b = .str ls ∧ ls.length ≤ 4 ∧ Dk H l ∧ ∀ p H', Txs H' p 1000 1000 → H p = none → Fr [l] H H' → Dk H' l → Q (.ref p) H'
theorem u_texts {H : Hp} {l : Addr} {ls : Str} {Q : VK} {E : XK} (h : Dk H l) (hl : ls.length ≤ 4) (q : ∀ p H', Txs H' p 1000 1000 → H p = none → Fr [l] H H' → Dk H' l → Q (.ref p) H') : spTexts [.ref l, .str ls] H Q E := ⟨_, _, rfl, l, ls, rfl, rfl, hl, h, q⟩
theorem u_deck {K : PySem.W.Frag} {H : Hp} {sc : Addr} {ns : List Int} {m e : Nat} {Q : VK} {E : XK} (h : SqL K H sc (ns.map V.int)) (hn : ns.length ≤ 63) (hm : m ≤ 100) (he : e ≤ 100) (q : ∀ l H', Fr [] H H' → H l = none → Dk H' l → Q (.ref l) H') : spDeck K [.ref sc, .int m, .int e] H Q E := ⟨_, _, _, rfl, sc, ns, m, e, rfl, rfl, rfl, h, hn, hm, he, q⟩
def spLaw (K : PySem.W.Frag) : Sp := sp1 fun a H Q E => ∃ (sc : Addr) (ns : List Int), a = .ref sc ∧ SqL K H sc (ns.map V.int) ∧ ns.length ≤ 63 ∧ ∀ H', Q (.bl true) H'
def recD (ls : Str) (body fin : List Td) : PyData := .list [.str ls, .list (body.map fun o => .tuple o.ds), .list (fin.map fun o => .tuple o.ds)]
theorem ord_ok {ls : Str} {b : Int} {i : Bool} {o : Td} (hls : PyData.strOk ls = true) (h : o.ok b ls i) : okD 1 (.tuple o.ds) := by
  refine ⟨by have := Td.len (o := o); omega, fun d hd => ?_⟩
  cases o with
  | sign c k =>
    simp only [Td.ds, List.mem_cons, List.not_mem_nil, or_false] at hd
    rcases hd with rfl | rfl | rfl
    · show PyData.strOk _ = true; decide +kernel
    · exact strOk_mem hls h.2.1
    · exact True.intro
  | kept c k =>
    simp only [Td.ds, List.mem_cons, List.not_mem_nil, or_false] at hd
    rcases hd with rfl | rfl | rfl
    · show PyData.strOk _ = true; decide +kernel
    · exact strOk_mem hls h.1
    · exact True.intro
  | write z =>
    simp only [Td.ds, List.mem_cons, List.not_mem_nil, or_false] at hd
    rcases hd with rfl | rfl
    · show PyData.strOk _ = true; decide +kernel
    · exact h.2
  | _ =>
    simp only [Td.ds, List.mem_cons, List.not_mem_nil, or_false] at hd
    rcases hd with rfl | rfl | rfl <;> first | exact True.intro | (show PyData.strOk _ = true; decide +kernel)
theorem recD_ok {ls : Str} {body fin : List Td} (hls : PyData.strOk ls = true) (h1 : TOks ls true body) (h2 : TOks ls false fin) (l1 : body.length ≤ 400) (l2 : fin.length ≤ 400) : okD 3 (recD ls body fin) := by
  refine ⟨by show 3 ≤ 1000000; decide, fun d hd => ?_⟩
  simp only [List.mem_cons, List.not_mem_nil, or_false] at hd
  rcases hd with rfl | rfl | rfl
  · exact hls
  · refine ⟨by rw [List.length_map]; omega, fun d hd => ?_⟩
    obtain ⟨o, ho, rfl⟩ := List.mem_map.mp hd
    obtain ⟨i, hi⟩ := List.mem_iff_getElem?.mp ho
    exact ord_ok hls (h1 i o hi)
  · refine ⟨by rw [List.length_map]; omega, fun d hd => ?_⟩
    obtain ⟨o, ho, rfl⟩ := List.mem_map.mp hd
    obtain ⟨i, hi⟩ := List.mem_iff_getElem?.mp ho
    exact ord_ok hls (h2 i o hi)

local macro_rules | `(tactic| walk_at "dne") => `(tactic| ((apply Dk.ne); (focus assumption); (focus walk_at "dk")))
local macro_rules | `(tactic| walk_at "dk") => `(tactic| first | assumption | ((apply Dk.fr); (focus assumption); (focus walk_at "dk"); (focus walk_at "ns")))
local macro_rules | `(tactic| walk_at "take") => `(tactic| (((with_reducible apply c_take); (focus walk_at "dk"); (focus (first | decide | omega)); intro _ _ _ _ _ _)))
local macro_rules | `(tactic| walk_at "draw") => `(tactic| (((with_reducible apply c_draw); (focus walk_at "dk"); intro _ _ hp _ _)))
local macro_rules | `(tactic| walk_at "dr") => `(tactic| (repeat (first | walk_at "s1" | walk_at "take" | walk_at "draw" | walk_at "ixL")))
local macro_rules | `(tactic| walk_at "tg1") => `(tactic| first | walk_at "s1" | walk_at "sd" | walk_at "ixT")
local macro_rules | `(tactic| walk_at "tg") => `(tactic| (repeat (walk_at "tg1")))
theorem ok_law_take {P : Program} {w : World} {K : PySem.W.Frag} {mg : Str → Option Value} {base : Heap} (T : Tx K w mg) : Cal P w K mg base CX0 1 "_law_take" ["deck", "many"] spTake := by
  refine cal_mk T.d_law_take sc_law_take (fun _ _ _ _ h => sp2_len h) (fun _ _ _ _ _ _ us hl => match us, hl with | [_, _], _ => rfl) fun f cdv A outer s H vs Q E hr h => ?_
  obtain ⟨x0, x1, rfl, h⟩ := h
  refine ⟨_, PSs.nox (pss_cons (ps_if (pt_cmpG (op_eqA (hu64 hr)) (pe_callB c_len (by rfl) T.len bt_len (pa_cons (pv 0) pa_nil)) pe_int (nomark _)) (pss_one (ps_ret pe_int)) pss_nil)
      (pss_one (ps_ret (pe_op op_modA (pe_callTy c_int (by rfl) T.int bt_int (pa_cons (pe_bm0G PySem.F.plainAttrs_list PySem.F.slot_list_pop PySem.F.type_list_pop mt_pop (pv 0)) pa_nil)) (pv 1))))), ?_⟩
  show (_ : L2.St → Hp → Prop) [some x0, some x1] H
  try dsimp only [cx_K, cx_K']
  obtain ⟨l, m, rfl, rfl, ⟨ds, hl, hd⟩, hm, q⟩ := h
  walk_at "go"
  walk_at "len"
  walk_at "go"
  refine r_if (fun e => ?_) (fun e => ?_)
  · walk_at "go"
    exact q 0 H (Int.le_refl _) hm (Fr.refl _ _) ⟨ds, hl, hd⟩
  · have hne : ds ≠ [] := fun z => e (by rw [z]; rfl)
    walk_at "go"
    walk_at "tyL"
    refine r_pop hl (last_map hne) fun H1 f1 h1 => ?_
    walk_at "go"
    refine q _ _ (Int.emod_nonneg _ (by omega)) (Int.emod_lt_of_pos _ hm) f1 ⟨ds.dropLast, by rw [h1, List.map_dropLast], fun d h => hd d ((List.dropLast_sublist ds).subset h)⟩
theorem ok_law_deck {P : Program} {w : World} {K : PySem.W.Frag} {mg : Str → Option Value} {base : Heap} (T : Tx K w mg) : Cal P w K mg base CX0 1 "_law_deck" ["script", "cells", "each"] (spDeck K) := by
  refine cal_mk T.d_law_deck sc_law_deck (fun _ _ _ _ h => sp3_len h) (fun _ _ _ _ _ _ us hl => match us, hl with | [_, _, _], _ => rfl) fun f cdv A outer s H vs Q E hr h => ?_
  obtain ⟨x0, x1, x2, rfl, h⟩ := h
  refine ⟨_, PSs.nox (pss_cons (ps_set (i := 3) sc_law_deck.nd rfl (Or.inl rfl) (pe_lstG pa_nil))
      (pss_cons (ps_set (i := 4) sc_law_deck.nd rfl (Or.inl rfl) (pe_op op_addA pe_int (pe_callB c_len (by rfl) T.len bt_len (pa_cons (pv 0) pa_nil))))
      (pss_cons (ps_for PassesOwn.never rfl (pi_range1 (by rfl) T.range (pa_cons (pv 1) pa_nil)) (pg_name (i := 5) sc_law_deck.nd rfl (Or.inl rfl))
      (pss_cons (ps_set (i := 6) sc_law_deck.nd rfl (Or.inl rfl) pe_int)
      (pss_cut (ps_if (pt_cmpG op_ltA (pv 5) (pe_callB c_len (by rfl) T.len bt_len (pa_cons (pv 0) pa_nil)) (nomark _)) (pss_one (ps_set (i := 6) sc_law_deck.nd rfl (Or.inl rfl) (pe_ix ix_seq (pv 0) (pv 5) (fun _ _ => rfl)))) pss_nil)
      (pss_cons (ps_set (i := 7) sc_law_deck.nd rfl (Or.inl rfl) (pe_callB c_abs (by rfl) T.abs bt_abs (pa_cons (pv 6) pa_nil)))
      (pss_one (ps_if (pt_cmpG op_geA (pv 7) (pe_op op_pow pe_int pe_int) (nomark _)) (pss_one (ps_for PassesOwn.never rfl (pi_range1 (by rfl) T.range (pa_cons (pv 2) pa_nil)) (pg_name (i := 8) sc_law_deck.nd rfl (Or.inl rfl))
      (pss_cons (ps_expr (pe_bmG PySem.F.plainAttrs_list PySem.F.slot_list_append PySem.F.type_list_append mt_append (pv 3) (pa_cons (pe_op op_modA (pe_callTy c_int (by rfl) T.int bt_int (pa_cons (pv 7) pa_nil)) pe_int) pa_nil)))
      (pss_one (ps_set (i := 7) sc_law_deck.nd rfl (Or.inl rfl) (pe_op op_fdivA (pv 7) pe_int)))))) (pss_cons (ps_set (i := 4) sc_law_deck.nd rfl (Or.inl rfl) (pe_op op_modA (pe_callTy c_int (by rfl) T.int bt_int (pa_cons (pe_op op_addA (pe_op op_addA (pe_op op_addA (pe_op op_mulA (pv 4) pe_int) (pe_op op_mulA pe_int (pv 7))) (pe_callTy c_int (by rfl) T.int bt_int (pa_cons (pe_cmpR op_ltA (pv 6) pe_int (nomark _)) pa_nil))) (pv 5)) pa_nil)) pe_int))
      (pss_one (ps_for PassesOwn.never rfl (pi_range1 (by rfl) T.range (pa_cons (pv 2) pa_nil)) (pg_name (i := 8) sc_law_deck.nd rfl (Or.inl rfl))
      (pss_cons (ps_set (i := 4) sc_law_deck.nd rfl (Or.inl rfl) (pe_op op_modA (pe_callTy c_int (by rfl) T.int bt_int (pa_cons (pe_op op_addA (pe_op op_addA (pe_op op_mulA (pv 4) pe_int) (pv 8)) pe_int) pa_nil)) pe_int))
      (pss_one (ps_expr (pe_bmG PySem.F.plainAttrs_list PySem.F.slot_list_append PySem.F.type_list_append mt_append (pv 3) (pa_cons (pe_op op_modA (pe_callTy c_int (by rfl) T.int bt_int (pa_cons (pe_op op_fdivA (pv 4) pe_int) pa_nil)) pe_int) pa_nil))))))))))))))
      (pss_cons (ps_expr (pe_bm0G PySem.F.plainAttrs_list PySem.F.slot_list_reverse PySem.F.type_list_reverse mt_reverse (pv 3)))
      (pss_one (ps_ret (pv 3))))))), ?_⟩
  show (_ : L2.St → Hp → Prop) [some x0, some x1, some x2, none, none, none, none, none, none] H
  try dsimp only [cx_K, cx_K']
  obtain ⟨sc, ns, m, e, rfl, rfl, rfl, hS, hlen, hm, he, q⟩ := h
  walk_at "go"
  walk_at "len"
  walk_at "go"
  rename_i l H1 n1 f1 h1
  refine r_kRng1 (by omega) ?_
  refine f_range (fun i σ H' => ∃ (ds : List Int) (seed : Int) (y5 y6 y7 y8 : Option V), σ = [some (V.ref sc), some (V.int m), some (V.int e), some (V.ref l), some (V.int seed), y5, y6, y7, y8] ∧ 0 ≤ seed ∧ Fr [] H H' ∧ H' l = some (.lst (ds.map V.int)) ∧ (∀ d ∈ ds, 0 ≤ d) ∧ ds.length ≤ i * e)
    ⟨[], _, none, none, none, none, rfl, ?_, f1, h1, (fun d h => nomatch h), Nat.zero_le _⟩ ?_ ?_
  · omega
  · rintro i σ H2 hi ⟨ds, seed, y5, y6, y7, y8, rfl, hs, f2, h2, hd, hl⟩
    walk_at "go"
    refine r_cut (fun σ' H' => ∃ c : Int, σ' = [some (V.ref sc), some (V.int m), some (V.int e), some (V.ref l), some (V.int seed), some (V.int (0 + (i : Int))), some (V.int c), y7, y8] ∧ H' = H2) ?_ ?_
    · walk_at "go"
      walk_at "len"
      walk_at "go"
      refine r_if (fun hc => ?_) (fun hc => ?_)
      · walk_at "go"
        rw [List.length_map] at hc
        refine r_ixL (f2.sql hS (by walk_at "ns")) (by rw [Int.zero_add]; exact at_ints (by omega)) ?_
        walk_at "go"
        exact ⟨_, rfl, rfl⟩
      · walk_at "go"
        exact ⟨_, rfl, rfl⟩
    · rintro _ _ ⟨c, rfl, rfl⟩
      walk_at "go"
      refine r_if (fun hb => ?_) (fun hb => ?_)
      · walk_at "go"
        refine r_kRng1 (by omega) ?_
        refine f_range (fun j σ' H' => ∃ (es : List Int) (rest : Int) (z8 : Option V), σ' = [some (V.ref sc), some (V.int m), some (V.int e), some (V.ref l), some (V.int seed), some (V.int (0 + (i : Int))), some (V.int c), some (V.int rest), z8] ∧ Fr [] H H' ∧ H' l = some (.lst (es.map V.int)) ∧ (∀ d ∈ es, 0 ≤ d) ∧ es.length ≤ i * e + j)
          ⟨ds, _, y8, rfl, f2, h2, hd, hl⟩ ?_ ?_
        · rintro j σ' H3 hj ⟨es, rest, z8, rfl, f3, h3, he3, hl3⟩
          walk_at "go"
          walk_at "tyL"
          walk_at "go"
          refine r_append h3 (by rw [List.length_map]; have := Nat.mul_le_mul (show i ≤ 100 by omega) (show e ≤ 100 by omega); omega) fun H4 f4 h4 => ?_
          walk_at "go"
          exact ⟨es ++ [rest % 1000003], _, _, rfl, by walk_at "fr", by rw [h4, List.map_append]; rfl, nn_app he3 (Int.emod_nonneg _ (by decide)), by rw [List.length_append, List.length_singleton]; omega⟩
        · rintro σ' H3 ⟨es, rest, z8, rfl, f3, h3, he3, hl3⟩
          exact ⟨es, _, _, _, _, _, rfl, hs, f3, h3, he3, by rw [Nat.succ_mul]; omega⟩
      · walk_at "go"
        refine r_kRng1 (by omega) ?_
        refine f_range (fun j σ' H' => ∃ (es : List Int) (sd rest : Int) (z8 : Option V), σ' = [some (V.ref sc), some (V.int m), some (V.int e), some (V.ref l), some (V.int sd), some (V.int (0 + (i : Int))), some (V.int c), some (V.int rest), z8] ∧ 0 ≤ sd ∧ Fr [] H H' ∧ H' l = some (.lst (es.map V.int)) ∧ (∀ d ∈ es, 0 ≤ d) ∧ es.length ≤ i * e + j)
          ⟨ds, _, _, y8, rfl, Int.emod_nonneg _ (by decide), f2, h2, hd, hl⟩ ?_ ?_
        · rintro j σ' H3 hj ⟨es, sd, rest, z8, rfl, hsd, f3, h3, he3, hl3⟩
          walk_at "go"
          walk_at "tyL"
          walk_at "go"
          refine r_append h3 (by rw [List.length_map]; have := Nat.mul_le_mul (show i ≤ 100 by omega) (show e ≤ 100 by omega); omega) fun H4 f4 h4 => ?_
          walk_at "go"
          exact ⟨es ++ [_], _, _, _, rfl, Int.emod_nonneg _ (by decide), by walk_at "fr", by rw [h4, List.map_append]; rfl, nn_app he3 (Int.emod_nonneg _ (by decide)), by rw [List.length_append, List.length_singleton]; omega⟩
        · rintro σ' H3 ⟨es, sd, rest, z8, rfl, hsd, f3, h3, he3, hl3⟩
          exact ⟨es, _, _, _, _, _, rfl, hsd, f3, h3, he3, by rw [Nat.succ_mul]; omega⟩
  · rintro σ H2 ⟨ds, seed, y5, y6, y7, y8, rfl, hs, f2, h2, hd, hl⟩
    walk_at "go"
    walk_at "tyL"
    refine r_reverse h2 fun H3 f3 h3 => ?_
    walk_at "go"
    exact q l H3 (by walk_at "fr") n1 ⟨ds.reverse, by rw [h3, List.map_reverse], fun d h => hd d (List.mem_reverse.mp h)⟩
theorem ok_fits {P : Program} {w : World} {K : PySem.W.Frag} {mg : Str → Option Value} {base : Heap} (T : Tx K w mg) : Cal P w K mg base CX0 1 "fits" ["letter", "operand", "behind", "letters"] spFits := by
  refine cal_mk T.d_fits sc_fits (fun _ _ _ _ h => sp4_len h) (fun _ _ _ _ _ _ us hl => match us, hl with | [_, _, _, _], _ => rfl) fun f cdv A outer s H vs Q E hr h => ?_
  obtain ⟨x0, x1, x2, x3, rfl, h⟩ := h
  refine ⟨_, PSs.nox (pss_cons (ps_if (pt_cmpG op_inK (pv 0) (pe_globR (by rfl) T.g_BOUNDS) rfl) (pss_one (ps_ret (pe_chain op_leA op_ltA pe_int (pv 1) (pe_ix ix_kdict (pe_globR (by rfl) T.g_BOUNDS) (pv 0) (fun _ _ => rfl))))) pss_nil)
      (pss_cons (ps_if (pt_cmpG (op_eqA (hu64 hr)) (pv 0) pe_str (nomark _)) (pss_one (ps_ret (pe_chain op_leA op_leA pe_int (pv 1) (pe_globC (by rfl) T.g_MOST_DIVISOR)))) pss_nil)
      (pss_cons (ps_if (pt_cmpG (op_eqA (hu64 hr)) (pv 0) pe_str (nomark _)) (pss_one (ps_ret (pe_chain op_leA op_leA pe_int (pv 1) (pv 2)))) pss_nil)
      (pss_cons (ps_if (pt_cmpG (op_eqA (hu64 hr)) (pv 0) pe_str (nomark _)) (pss_one (ps_ret (pe_andT (pe_cmpR (op_eqA (hu64 hr)) (pe_callB c_len (by rfl) T.len bt_len (pa_cons (pv 1) pa_nil)) pe_int (nomark _)) (pe_one (pe_cmpR op_inA (pv 1) (pv 3) rfl))))) pss_nil)
      (pss_one (ps_ret pe_bl)))))), ?_⟩
  show (_ : L2.St → Hp → Prop) [some x0, some x1, some x2, some x3] H
  try dsimp only [cx_K, cx_K']
  obtain ⟨z, d, bh, ls, rfl, hd, rfl, rfl, ok, hz, q⟩ := h
  have chainR : ∀ {i lo hi : Int}, Q (.bl (inR (.int i) lo hi)) H → (lo ≤ i) → Q (.bl (decide (i < hi + 1))) H := fun {i lo hi} q h => q_of q (by rw [inR_c]; exact decide_eq_decide.mpr ⟨fun z => by omega, fun z => ⟨h, by omega⟩⟩)
  have chainL : ∀ {i lo hi : Int}, Q (.bl (inR (.int i) lo hi)) H → (lo ≤ i) → Q (.bl (decide (i ≤ hi))) H := fun {i lo hi} q h => q_of q (by rw [inR_c]; exact decide_eq_decide.mpr ⟨fun z => by omega, fun z => ⟨h, by omega⟩⟩)
  have chainF : ∀ {i lo hi : Int}, Q (.bl (inR (.int i) lo hi)) H → ¬ (lo ≤ i) → Q (.bl false) H := fun {i lo hi} q h => q_of q (by rw [inR_c]; exact decide_eq_false fun z => h z.1)
  cases d with
  | int i =>
    cases hd
    have nl : ¬ z = "l" := ok
    by_cases h1 : z = "r"
    · subst h1
      rw [fits_r] at q
      walk_at "go"
      refine r_inK (b := true) T.w_BOUNDS (by decide +kernel) ?_
      walk_at "go"
      refine r_if (fun c => ?_) (fun c => chainF q c)
      walk_at "go"
      refine r_ixK T.w_BOUNDS (v := .int 8) (by decide +kernel) ?_
      walk_at "go"
      exact chainR q c
    by_cases h2 : z = "f"
    · subst h2
      rw [fits_f] at q
      walk_at "go"
      refine r_inK (b := true) T.w_BOUNDS (by decide +kernel) ?_
      walk_at "go"
      refine r_if (fun c => ?_) (fun c => chainF q c)
      walk_at "go"
      refine r_ixK T.w_BOUNDS (v := .int 4) (by decide +kernel) ?_
      walk_at "go"
      exact chainR q c
    walk_at "go"
    refine r_inK (b := false) T.w_BOUNDS (by rw [bnd_none h1 h2]; rfl) ?_
    walk_at "go"
    refine r_if (fun h3 => ?_) (fun h3 => ?_)
    · subst h3
      rw [fits_d] at q
      walk_at "go"
      refine r_if (fun c => ?_) (fun c => chainF q c)
      walk_at "go"
      exact chainL q c
    walk_at "go"
    refine r_if (fun h4 => ?_) (fun h4 => ?_)
    · subst h4
      rw [fits_k] at q
      walk_at "go"
      refine r_if (fun c => ?_) (fun c => chainF q c)
      walk_at "go"
      exact chainL q c
    walk_at "go"
    refine r_df nl ?_
    walk_at "go"
    exact q_of q (fits_x h1 h2 h3 h4 nl)
  | str y =>
    cases hd
    obtain ⟨h1, h2, h3, h4⟩ : ¬ z = "r" ∧ ¬ z = "f" ∧ ¬ z = "d" ∧ ¬ z = "k" := ok
    walk_at "go"
    refine r_inK (b := false) T.w_BOUNDS (by rw [bnd_none h1 h2]; rfl) ?_
    walk_at "go"
    refine r_df h3 ?_
    walk_at "go"
    refine r_df h4 ?_
    walk_at "go"
    refine r_if (fun h5 => ?_) (fun h5 => ?_)
    · subst h5
      rw [fits_l] at q
      walk_at "go"
      refine r_lenS (hz y rfl) ?_
      walk_at "go"
      refine r_if (fun c => ?_) (fun c => ?_)
      · obtain ⟨c1, rfl⟩ := one_len c
        walk_at "go"
        refine r_inC ?_
        exact q
      · exact q_of q (by rw [oneIn_not c, decide_eq_false c])
    · walk_at "go"
      exact q_of q (fits_x h1 h2 h3 h4 h5)
  | _ => exact ok.elim
theorem ok_shape_of {P : Program} {w : World} {K : PySem.W.Frag} {mg : Str → Option Value} {base : Heap} (T : Tx K w mg) : Cal P w K mg base CX0 1 "shape_of" ["part", "word"] spShape := by
  refine cal_mk T.d_shape_of sc_shape_of (fun _ _ _ _ h => sp2_len h) (fun _ _ _ _ _ _ us hl => match us, hl with | [_, _], _ => rfl) fun f cdv A outer s H vs Q E hr h => ?_
  obtain ⟨x0, x1, rfl, h⟩ := h
  refine ⟨_, PSs.nox (pss_cons (ps_if (pt_cmpG (op_eqA (hu64 hr)) (pv 0) pe_str (nomark _)) (pss_one (ps_ret (pe_bmGK (pe_globR (by rfl) T.g_NUMBER_ORDERS) (pv 1) ⟨rfl, rfl, rfl, rfl⟩))) pss_nil)
      (pss_cons (ps_if (pt_cmpG (op_eqA (hu64 hr)) (pv 0) pe_str (nomark _)) (pss_one (ps_ret (pe_bmGK (pe_globR (by rfl) T.g_BODY_ORDERS) (pv 1) ⟨rfl, rfl, rfl, rfl⟩))) pss_nil)
      (pss_one (ps_ret (pe_bmGK (pe_globR (by rfl) T.g_FINISH_ORDERS) (pv 1) ⟨rfl, rfl, rfl, rfl⟩))))), ?_⟩
  show (_ : L2.St → Hp → Prop) [some x0, some x1] H
  try dsimp only [cx_K, cx_K']
  obtain ⟨part, word, rfl, rfl, q⟩ := h
  have key : ∀ (l : List (Str × Str)), shp part word = l.lookup word → Q (((l.map fun q => (q.1, V.str q.2)).lookup word).getD .non) H := fun l e => by rw [osV_of, ← e]; exact q
  walk_at "go"
  refine r_if (fun h1 => ?_) (fun h1 => ?_)
  · walk_at "go"
    refine r_kGet T.w_NUMBER_ORDERS ?_
    walk_at "go"
    exact ⟨_, rfl, key numS (by unfold shp tabS; rw [if_pos h1])⟩
  · walk_at "go"
    refine r_if (fun h2 => ?_) (fun h2 => ?_)
    · walk_at "go"
      refine r_kGet T.w_BODY_ORDERS ?_
      walk_at "go"
      exact ⟨_, rfl, key bodS (by unfold shp tabS; rw [if_neg h1, if_pos h2])⟩
    · walk_at "go"
      refine r_kGet T.w_FINISH_ORDERS ?_
      walk_at "go"
      exact ⟨_, rfl, key finS (by unfold shp tabS; rw [if_neg h1, if_neg h2])⟩
theorem ok_allowed {P : Program} {w : World} {K : PySem.W.Frag} {mg : Str → Option Value} {base : Heap} (T : Tx K w mg) (c_shape_of : Cal P w K mg base CX0 1 "shape_of" ["part", "word"] spShape) (c_fits : Cal P w K mg base CX0 1 "fits" ["letter", "operand", "behind", "letters"] spFits) : Cal P w K mg base CX0 2 "allowed" ["order", "part", "behind", "letters"] spAllowed := by
  refine cal_mk T.d_allowed sc_allowed (fun _ _ _ _ h => sp4_len h) (fun _ _ _ _ _ _ us hl => match us, hl with | [_, _, _, _], _ => rfl) fun f cdv A outer s H vs Q E hr h => ?_
  obtain ⟨x0, x1, x2, x3, rfl, h⟩ := h
  refine ⟨_, PSs.nox (pss_cons (ps_if (pt_cmpG (op_eqA (hu64 hr)) (pe_callB c_len (by rfl) T.len bt_len (pa_cons (pv 0) pa_nil)) pe_int (nomark _)) (pss_one (ps_ret pe_bl)) pss_nil)
      (pss_cons (ps_set (i := 4) sc_allowed.nd rfl (Or.inl rfl) (pe_callC c_shape_of (hr.mono (by decide)) (by rfl) pass0 (pa_cons (pv 1) (pa_cons (pe_ix ix_seq (pv 0) pe_int (fun _ _ => rfl)) pa_nil))))
      (pss_cons (ps_if (PW.pt (pw_or (pt_cmpG op_isN1 (pv 4) pe_non (nomark _)) (pw_or1 (pt_cmpG (op_neA (hu64 hr)) (pe_callB c_len (by rfl) T.len bt_len (pa_cons (pv 0) pa_nil)) (pe_op op_addA (pe_callB c_len (by rfl) T.len bt_len (pa_cons (pv 4) pa_nil)) pe_int) (nomark _))))) (pss_one (ps_ret pe_bl)) pss_nil)
      (pss_cons (ps_for PassesOwn.never rfl (pi_zipG (by rfl) T.zip (pa_cons (pv 4) (pa_cons (pe_slice sl_A (pv 0) (po_some pe_int) po_none) pa_nil))) (pg_tup rfl (pgs_cons (pg_name (i := 5) sc_allowed.nd rfl (Or.inl rfl)) (pgs_cons (pg_name (i := 6) sc_allowed.nd rfl (Or.inl rfl)) pgs_nil)))
      (pss_one (ps_if (pt_not (pt_truG (pe_callC c_fits (hr.mono (by decide)) (by rfl) pass0 (pa_cons (pv 5) (pa_cons (pv 6) (pa_cons (pv 2) (pa_cons (pv 3) pa_nil))))))) (pss_one (ps_ret pe_bl)) pss_nil)))
      (pss_one (ps_ret pe_bl)))))), ?_⟩
  show (_ : L2.St → Hp → Prop) [some x0, some x1, some x2, some x3, none, none, none] H
  try dsimp only [cx_K, cx_K']
  obtain ⟨p, vs, ds, part, bh, ls, rfl, hp, hd, rfl, rfl, rfl, ok, hdl, hz, q⟩ := h
  walk_at "go"
  refine r_lenT (.of hp) ?_
  walk_at "go"
  refine r_if (fun c => ?_) (fun c => ?_)
  · have e0 : vs = [] := List.length_eq_zero_iff.mp (by omega)
    subst e0
    cases hd
    walk_at "go"
    exact q _ (Fr.refl _ _)
  rcases ok with rfl | ⟨word, rest, rfl, okt⟩
  · cases hd
    exact absurd rfl c
  have hvl := hd.length
  cases hd with
  | @cons v vr _ _ hw hr2 =>
  cases hw
  walk_at "go"
  refine r_ixT (.of hp) atI_zero ?_
  walk_at "go"
  refine u_shape ?_
  walk_at "go"
  have eA : allowD (.str word :: rest) part bh ls = (match shp part word with
      | none => false
      | some s => decide (rest.length = s.cps.size) && ((s.cps.toList.zip rest).all fun q => fitsD ⟨#[q.1]⟩ q.2 bh ls)) := rfl
  cases hs : shp part word with
  | none =>
    rw [hs] at eA
    rw [show osV none = V.non from rfl]
    walk_at "go"
    refine r_dt rfl ?_
    walk_at "go"
    rw [eA] at q
    exact q _ (Fr.refl _ _)
  | some s =>
    rw [hs] at eA
    obtain ⟨hasc, hsl⟩ := shp_asc hs
    have esz : s.length = s.cps.size := rfl
    have hvr := hr2.length
    rw [show osV (some s) = V.str s from rfl]
    walk_at "go"
    refine r_df (by intro z; cases z) ?_
    walk_at "go"
    refine r_lenT (.of hp) ?_
    walk_at "go"
    refine r_lenS hsl ?_
    walk_at "go"
    refine r_ifn (fun hn => ?_) (fun hn => ?_)
    · walk_at "go"
      have ne : ¬ rest.length = s.cps.size := fun e => hn (by rw [List.length_cons, hvr, e]; rfl)
      have eA2 := eA.trans (show (decide (rest.length = s.cps.size) && _) = false by rw [decide_eq_false ne]; rfl)
      rw [eA2] at q
      exact q _ (Fr.refl _ _)
    · have hlen : rest.length = s.cps.size := by rw [List.length_cons, hvr, esz] at hn; omega
      have eA2 : allowD (.str word :: rest) part bh ls = ((s.cps.toList.zip rest).all fun q => fitsD ⟨#[q.1]⟩ q.2 bh ls) := by
        rw [eA]
        show (decide (rest.length = s.cps.size) && _) = _
        rw [decide_eq_true hlen, Bool.true_and]
      rw [eA2] at q
      walk_at "go"
      refine r_slT (.of hp) (fun z => by have := z.1; rw [show (1 : Int) = ((1 : Nat) : Int) from rfl, HT.sIx_nat, List.length_cons] at this; omega) fun p2 H2 n2 f2 h2 => ?_
      rw [show (1 : Int) = ((1 : Nat) : Int) from rfl, cutV_drop (by rw [List.length_cons] <;> omega)] at h2
      have h2' : H2 p2 = some (.tup vr) := h2
      walk_at "go"
      refine r_zipST hasc (.of h2') ?_
      refine f_it (walk_zipST (K := K) (b := p2) (ys := vr) (n := vr.length) (by omega)) (fun i σ' H' => ∃ x5 x6, σ' = [some (V.ref p), some (V.str part), some (V.int bh), some (V.str ls), some (V.str s), x5, x6] ∧ Fr [] H H' ∧ H' p2 = some (.tup vr) ∧ ((s.cps.toList.zip rest).take i).all (fun q => fitsD ⟨#[q.1]⟩ q.2 bh ls) = true) ?_ ?_ ?_ ?_
      · exact ⟨none, none, rfl, f2, h2', by rw [List.take_zero]; rfl⟩
      · rintro i σ' H' hi ⟨_, _, _, _, h, _⟩
        exact .of h
      · rintro i x σ' H3 H4 hi ⟨x5, x6, rfl, f3, h3, ha⟩ ⟨tp, cv, y, rfl, n4, rfl, hc, hy⟩
        have f4 : Fr [] H3 (upd H3 tp (.tup [cv, y])) := .new n4
        have h4 : (upd H3 tp (.tup [cv, y])) tp = some (.tup [cv, y]) := upd_same
        generalize upd H3 tp (.tup [cv, y]) = H4 at f4 h4
        have hi2 : i < s.cps.size := by omega
        obtain ⟨c0, hc0⟩ : ∃ c0, s.cps[i]? = some c0 := ⟨s.cps[i], by simp [hi2]⟩
        have hcv : V.str ⟨#[c0]⟩ = cv := by
          have hc' : (s.cps[i]?).map (fun c => V.str ⟨#[c]⟩) = some cv := hc
          rw [hc0] at hc'
          exact Option.some.inj hc'
        subst hcv
        obtain ⟨d, hd0, hdi⟩ := hr2.get hy
        have hzip : (s.cps.toList.zip rest)[i]? = some (c0, d) := by
          rw [List.getElem?_zip_eq_some]
          exact ⟨by simpa using hc0, hd0⟩
        have hm := List.mem_of_getElem? hzip
        have hdm : d ∈ rest := List.mem_of_getElem? hd0
        walk_at "go"
        refine r_gtup h4 rfl ?_
        walk_at "go"
        refine u_fits (Im.fr f4 _ _ (Im.fr f3 _ _ hdi)) (okt s hs hlen _ hm) (fun y e => hz y (by rw [← e]; exact List.mem_cons_of_mem _ hdm)) ?_
        walk_at "go"
        cases hf : fitsD ⟨#[c0]⟩ d bh ls with
        | true =>
          refine r_ff ?_
          walk_at "go"
          refine ⟨_, _, rfl, f4.step0 f3, f4.tup h3, ?_⟩
          rw [List.take_add_one, hzip, List.all_append, ha]
          show (true && ([(c0, d)].all _)) = true
          simp [hf]
        | false =>
          refine r_tt ?_
          walk_at "go"
          have e : ((s.cps.toList.zip rest).all fun q => fitsD ⟨#[q.1]⟩ q.2 bh ls) = false := by
            rw [← Bool.not_eq_true]
            intro h
            have := List.all_eq_true.mp h _ hm
            rw [hf] at this
            cases this
          rw [e] at q
          exact q _ (f4.step0 f3)
      · rintro σ' H' ⟨x5, x6, rfl, f3, h3, ha⟩
        rw [List.take_of_length_le (by rw [List.length_zip]; omega)] at ha
        walk_at "go"
        rw [ha] at q
        exact q _ f3
theorem ok_check_orders {P : Program} {w : World} {K : PySem.W.Frag} {mg : Str → Option Value} {base : Heap} (T : Tx K w mg) (c_allowed : Cal P w K mg base CX0 2 "allowed" ["order", "part", "behind", "letters"] spAllowed) : Cal P w K mg base CX0 3 "check_orders" ["part", "orders", "letters"] spCheckG := by
  refine cal_mk T.d_check_orders sc_check_orders (fun _ _ _ _ h => sp3_len h) (fun _ _ _ _ _ _ us hl => match us, hl with | [_, _, _], _ => rfl) fun f cdv A outer s H vs Q E hr h => ?_
  obtain ⟨x0, x1, x2, rfl, h⟩ := h
  refine ⟨_, PSs.nox (pss_one (ps_for PassesOwn.never rfl (pi_range1 (by rfl) T.range (pa_cons (pe_callB c_len (by rfl) T.len bt_len (pa_cons (pv 1) pa_nil)) pa_nil)) (pg_name (i := 3) sc_check_orders.nd rfl (Or.inl rfl))
      (pss_one (ps_if (pt_not (pt_truG (pe_callC c_allowed (hr.mono (by decide)) (by rfl) pass0 (pa_cons (pe_ix ix_seq (pv 1) (pv 3) (fun _ _ => rfl)) (pa_cons (pv 0) (pa_cons (pe_op op_sub (pe_op op_sub (pe_callB c_len (by rfl) T.len bt_len (pa_cons (pv 1) pa_nil)) (pv 3)) pe_int) (pa_cons (pv 2) pa_nil))))))) (pss_one ps_never) pss_nil)))), ?_⟩
  show (_ : L2.St → Hp → Prop) [some x0, some x1, some x2, none] H
  try dsimp only [cx_K, cx_K']
  obtain ⟨part, ls, l, vs, dss, rfl, rfl, rfl, hl, ha, hok, hlen, q⟩ := h
  have hvl := ha.length
  walk_at "go"
  refine r_lenL (.of hl) ?_
  refine r_kRng1 (by omega) ?_
  refine f_range (fun i σ' H' => ∃ x3, σ' = [some (V.str part), some (V.ref l), some (V.str ls), x3] ∧ Fr [] H H') ⟨none, rfl, Fr.refl _ _⟩ ?_ ?_
  · rintro i σ' H1 hi ⟨x3, rfl, f1⟩
    have hlt : i < vs.length := by omega
    have hl1 := f1.get hl List.not_mem_nil
    obtain ⟨ds, ho, t, ws, hvt, ht, hti⟩ := (ha.fr f1).get (List.getElem?_eq_getElem hlt)
    have hk := hok i ds ho
    walk_at "go"
    refine r_ixL (.of hl1) (by rw [Int.zero_add]; exact atI_nat (List.getElem?_eq_getElem hlt)) ?_
    rw [hvt]
    walk_at "go"
    refine r_lenL (.of hl1) ?_
    walk_at "go"
    have eb : ((vs.length : Int) - (0 + (i : Int)) - 1) = (dss.length : Int) - i - 1 := by omega
    rw [eb]
    refine u_allowed ht hti hk.ty (by have := hk.ln; omega) hk.st fun H2 f2 => ?_
    rw [hk.al]
    walk_at "go"
    refine r_ff ?_
    walk_at "go"
    exact ⟨_, rfl, f2.step0 f1⟩
  · rintro σ' H1 ⟨x3, rfl, f1⟩
    exact q _ f1
theorem ok_check_letters {P : Program} {w : World} {K : PySem.W.Frag} {mg : Str → Option Value} {base : Heap} (T : Tx K w mg) : Cal P w K mg base CX0 1 "check_letters" ["letters"] spLetters := by
  refine cal_mk T.d_check_letters sc_check_letters (fun _ _ _ _ h => sp1_len h) (fun _ _ _ _ _ _ us hl => match us, hl with | [_], _ => rfl) fun f cdv A outer s H vs Q E hr h => ?_
  obtain ⟨x0, rfl, h⟩ := h
  refine ⟨_, PSs.nox (pss_one (ps_for PassesOwn.never rfl (pi_range1 (by rfl) T.range (pa_cons (pe_callB c_len (by rfl) T.len bt_len (pa_cons (pv 0) pa_nil)) pa_nil)) (pg_name (i := 1) sc_check_letters.nd rfl (Or.inl rfl))
      (pss_one (ps_if (PW.pt (pw_or (pt_cmpG op_niA (pe_ix ix_seq (pv 0) (pv 1) (fun _ _ => rfl)) (pe_globS (by rfl) T.g_LETTERS) rfl) (pw_or1 (pt_cmpG op_inA (pe_ix ix_seq (pv 0) (pv 1) (fun _ _ => rfl)) (pe_slice sl_A (pv 0) po_none (po_some (pv 1))) rfl)))) (pss_one ps_never) pss_nil)))), ?_⟩
  show (_ : L2.St → Hp → Prop) [some x0, none] H
  try dsimp only [cx_K, cx_K']
  obtain ⟨ls, rfl, ⟨hln, hok⟩, q⟩ := h
  walk_at "go"
  refine r_lenS (by omega) ?_
  refine r_kRng1 (by omega) ?_
  refine f_range (fun i σ' H' => ∃ x1, σ' = [some (V.str ls), x1] ∧ H' = H) ⟨none, rfl, rfl⟩ ?_ ?_
  · rintro i σ' H1 hi ⟨x1, rfl, rfl⟩
    have hlt : i < ls.cps.toList.length := by have : ls.length = ls.cps.toList.length := rfl; omega
    obtain ⟨hc1, hc2⟩ := hok i ls.cps.toList[i] (List.getElem?_eq_getElem hlt)
    have hat : atI ls.cps.toList (0 + (i : Int)) = some ls.cps.toList[i] := by rw [Int.zero_add]; exact atI_nat (List.getElem?_eq_getElem hlt)
    walk_at "go"
    refine r_ixS (by omega) hat ?_
    walk_at "go"
    refine r_niC ?_
    walk_at "go"
    refine r_ndf hc1 ?_
    walk_at "go"
    refine r_ixS (by omega) hat ?_
    walk_at "go"
    refine r_slS (by omega) ?_
    rw [Int.zero_add]
    refine r_inC ?_
    rw [slice_take (Nat.le_of_lt hlt)]
    walk_at "go"
    refine r_df hc2 ?_
    walk_at "go"
    exact ⟨_, rfl, rfl⟩
  · rintro σ' H1 ⟨x1, rfl, rfl⟩
    exact q
theorem ok_Speller___init__ {P : Program} {w : World} {K : PySem.W.Frag} {mg : Str → Option Value} {base : Heap} (T : Tx K w mg) : Mak P w K mg base CX0 1 "Speller" ["self", "flags", "kept"] (spSpInit K) := by
  refine mak_mk T.d_Speller___init__ sc_Speller___init__ (fun _ _ _ _ h => sp3_len h) (fun _ _ _ _ _ _ us hl => match us, hl with | [_, _, _], _ => rfl) fun f cdv A outer s H vs Q E hr h => ?_
  obtain ⟨x0, x1, x2, rfl, h⟩ := h
  refine ⟨_, PSs.nox (pss_cons (ps_fldG (pv 0) (pe_callTy c_listOf (by rfl) T.list bt_list (pa_cons (pv 1) pa_nil)) rfl)
      (pss_cons (ps_fldG (pv 0) (pv 2) rfl)
      (pss_one (ps_fldG (pv 0) pe_str rfl)))), ?_⟩
  show (_ : L2.St → Hp → Prop) [some x0, some x1, some x2] H
  try dsimp only [cx_K, cx_K']
  obtain ⟨x, dx, l, xs, z, rfl, rfl, rfl, hx, hl, q⟩ := h
  walk_at "go"
  refine r_listOf (.inl hl) fun fl H1 n1 f1 h1 => ?_
  walk_at "go"
  refine r_kSetF (f1.get hx List.not_mem_nil) T.cl_Sp T.n_flags (Nat.le_of_ble_eq_true rfl) fun H2 f2 h2 => ?_
  walk_at "go"
  refine r_kSetF h2 T.cl_Sp T.n_kept (Nat.le_of_ble_eq_true rfl) fun H3 f3 h3 => ?_
  walk_at "go"
  refine r_kSetF h3 T.cl_Sp T.n_written (Nat.le_of_ble_eq_true rfl) fun H4 f4 h4 => ?_
  walk_at "go"
  have ne : fl ∉ [x] := fun z => by
    rw [List.mem_singleton.mp z, hx] at n1
    cases n1
  exact q fl H4 (f4.stepS (f3.stepS (f2.stepS f1.any))) n1 (f4.get (f3.get (f2.get h1 ne) ne) ne) h4
theorem ok_Speller_do {P : Program} {w : World} {K : PySem.W.Frag} {mg : Str → Option Value} {base : Heap} (T : Tx K w mg) : Mcl P w K mg base CX0 1 "Speller" "do" ["self", "order", "sign"] (spDo K) := by
  refine mcl_mk T.d_Speller_do sc_Speller_do (fun _ _ _ _ h => sp3_len h) (fun _ _ _ _ _ _ us hl => match us, hl with | [_, _, _], _ => rfl) fun f cdv A outer s H vs Q E hr h => ?_
  obtain ⟨x0, x1, x2, rfl, h⟩ := h
  refine ⟨_, PSs.nox (pss_cons (ps_set (i := 3) sc_Speller_do.nd rfl (Or.inl rfl) (pe_ix ix_seq (pv 1) pe_int (fun _ _ => rfl)))
      (pss_one (ps_if (pt_cmpG (op_eqA (hu64 hr)) (pv 3) pe_str (nomark _)) (pss_one (ps_fldaug (pv 0) (pv 2) in_addS)) (pss_one (ps_if (pt_cmpG (op_eqA (hu64 hr)) (pv 3) pe_str (nomark _)) (pss_one (ps_fldG (pv 0) (pv 2) rfl)) (pss_one (ps_if (pt_cmpG (op_eqA (hu64 hr)) (pv 3) pe_str (nomark _)) (pss_cons (ps_fldaug (pv 0) (pe_fldG (pv 0) rfl) in_addS)
      (pss_one (ps_fldG (pv 0) pe_str rfl))) (pss_one (ps_if (pt_cmpG (op_eqA (hu64 hr)) (pv 3) pe_str (nomark _)) (pss_one (ps_fldaug (pv 0) (pe_ix ix_seq (pv 1) pe_int (fun _ _ => rfl)) in_addS)) (pss_one (ps_if (pt_cmpG op_inA (pv 3) (pe_tupG (pa_cons pe_str (pa_cons pe_str pa_nil))) rfl) (pss_one (ps_asg (pe_cmpR (op_eqA (hu64 hr)) (pv 3) pe_str (nomark _)) (pg_sub (pe_fldG (pv 0) rfl) (pe_ix ix_seq (pv 1) pe_int (fun _ _ => rfl)) set_list))) pss_nil))))))))))), ?_⟩
  show (_ : L2.St → Hp → Prop) [some x0, some x1, some x2, none] H
  try dsimp only [cx_K, cx_K']
  obtain ⟨p, dx, fl, st, o, sg, rfl, hS, ⟨t, rfl, ht⟩, rfl, ⟨bh, ok⟩, hs, hw, q⟩ := h
  have hs1 := hs.1
  have hwr := hw.wr
  have hkp := hw.kp
  have npf := hS.ne
  have mp : ∀ {H' : Hp}, Fr [p] H H' → Fr [p, fl] H H' := fun f => f.mono fun a h => by rw [List.mem_singleton.mp h]; exact List.mem_cons_self ..
  have nfl : fl ∉ [p] := by simpa using npf.symm
  cases o with
  | echo =>
    walk_at "tg"
    refine r_kFA hS.1 T.cl_Sp T.n_written rfl ?_
    walk_at "go"
    refine r_rAddS (by omega) ?_
    refine r_kFA2 hS.1 (Nat.le_of_ble_eq_true rfl) fun H1 f1 h1 => ?_
    exact q _ (mp f1) ⟨h1, f1.get hS.2 nfl⟩
  | keep =>
    walk_at "tg"
    refine r_kSetF hS.1 T.cl_Sp T.n_kept (Nat.le_of_ble_eq_true rfl) fun H1 f1 h1 => ?_
    exact q _ (mp f1) ⟨h1, f1.get hS.2 nfl⟩
  | pay =>
    walk_at "tg"
    refine r_kFA hS.1 T.cl_Sp T.n_written rfl ?_
    walk_at "go"
    refine r_kFld hS.1 T.cl_Sp T.n_kept rfl ?_
    refine r_rAddS (by omega) ?_
    refine r_kFA2 hS.1 (Nat.le_of_ble_eq_true rfl) fun H1 f1 h1 => ?_
    walk_at "go"
    refine r_kSetF h1 T.cl_Sp T.n_kept (Nat.le_of_ble_eq_true rfl) fun H2 f2 h2 => ?_
    exact q _ (mp (f2.stepS f1)) ⟨h2, f2.get (f1.get hS.2 nfl) nfl⟩
  | write z =>
    have hz : z.length ≤ 8 := ok.1
    walk_at "tg"
    refine r_kFA hS.1 T.cl_Sp T.n_written rfl ?_
    walk_at "tg"
    refine r_rAddS (by omega) ?_
    refine r_kFA2 hS.1 (Nat.le_of_ble_eq_true rfl) fun H1 f1 h1 => ?_
    exact q _ (mp f1) ⟨h1, f1.get hS.2 nfl⟩
  | raise f =>
    walk_at "tg"
    rename_i p1 H1 n1 f1 h1
    refine r_inS ["raise", "lower"] (.inr (.of h1)) ?_
    walk_at "go"
    refine r_dt (by decide +kernel) ?_
    walk_at "go"
    have hS1 : SpAt K H1 p dx fl st := hS.fr f1 List.not_mem_nil List.not_mem_nil
    rw [decide_eq_true (rfl : ("raise" : Str) = "raise")]
    refine r_kFld hS1.1 T.cl_Sp T.n_flags rfl ?_
    walk_at "tg"
    refine r_setL hS1.2 (ix_flag hw.fl ok) fun H2 f2 h2 => ?_
    refine q _ ((f2.stepL (f1.any) (by simp))) ⟨f2.get hS1.1 (by simpa using npf), ?_⟩
    rw [h2, ← List.map_set]
    rfl
  | lower f =>
    walk_at "tg"
    rename_i p1 H1 n1 f1 h1
    refine r_inS ["raise", "lower"] (.inr (.of h1)) ?_
    walk_at "go"
    refine r_dt (by decide +kernel) ?_
    walk_at "go"
    have hS1 : SpAt K H1 p dx fl st := hS.fr f1 List.not_mem_nil List.not_mem_nil
    rw [decide_eq_false (show ¬ ("lower" : Str) = "raise" by decide +kernel)]
    refine r_kFld hS1.1 T.cl_Sp T.n_flags rfl ?_
    walk_at "tg"
    refine r_setL hS1.2 (ix_flag hw.fl ok) fun H2 f2 h2 => ?_
    refine q _ ((f2.stepL (f1.any) (by simp))) ⟨f2.get hS1.1 (by simpa using npf), ?_⟩
    rw [h2, ← List.map_set]
    rfl
  | _ =>
    walk_at "tg"
    rename_i p1 H1 n1 f1 h1
    refine r_inS ["raise", "lower"] (.inr (.of h1)) ?_
    walk_at "go"
    refine r_df (by decide +kernel) ?_
    walk_at "go"
    exact q _ f1.any (hS.fr f1 List.not_mem_nil List.not_mem_nil)
theorem ok_Speller_skipped {P : Program} {w : World} {K : PySem.W.Frag} {mg : Str → Option Value} {base : Heap} (T : Tx K w mg) : Mcl P w K mg base CX0 1 "Speller" "skipped" ["self", "order", "sign"] (spSkT K) := by
  refine mcl_mk T.d_Speller_skipped sc_Speller_skipped (fun _ _ _ _ h => sp3_len h) (fun _ _ _ _ _ _ us hl => match us, hl with | [_, _, _], _ => rfl) fun f cdv A outer s H vs Q E hr h => ?_
  obtain ⟨x0, x1, x2, rfl, h⟩ := h
  refine ⟨_, PSs.nox (pss_cons (ps_set (i := 3) sc_Speller_skipped.nd rfl (Or.inl rfl) (pe_ix ix_seq (pv 1) pe_int (fun _ _ => rfl)))
      (pss_cons (ps_if (pt_cmpG (op_eqA (hu64 hr)) (pv 3) pe_str (nomark _)) (pss_one (ps_ret (pe_ix ix_seq (pv 1) pe_int (fun _ _ => rfl)))) pss_nil)
      (pss_cons (ps_if (PW.pt (pw_or (PW.pt (pw_and (pt_cmpG (op_eqA (hu64 hr)) (pv 3) pe_str (nomark _)) (pw_and1 (pt_cmpG (op_neA (hu64 hr)) (pe_ix ix_seq (pv 1) pe_int (fun _ _ => rfl)) (pv 2) (nomark _))))) (pw_or1 (PW.pt (pw_and (pt_cmpG (op_eqA (hu64 hr)) (pv 3) pe_str (nomark _)) (pw_and1 (pt_cmpG (op_neA (hu64 hr)) (pe_ix ix_seq (pv 1) pe_int (fun _ _ => rfl)) (pe_fldG (pv 0) rfl) (nomark _)))))))) (pss_one (ps_ret (pe_ix ix_seq (pv 1) pe_int (fun _ _ => rfl)))) pss_nil)
      (pss_cons (ps_if (PW.pt (pw_or (PW.pt (pw_and (pt_cmpG (op_eqA (hu64 hr)) (pv 3) pe_str (nomark _)) (pw_and1 (pt_not (pt_truG (pe_ix ix_seq (pe_fldG (pv 0) rfl) (pe_ix ix_seq (pv 1) pe_int (fun _ _ => rfl)) (fun _ _ => rfl))))))) (pw_or1 (PW.pt (pw_and (pt_cmpG (op_eqA (hu64 hr)) (pv 3) pe_str (nomark _)) (pw_and1 (pt_truG (pe_ix ix_seq (pe_fldG (pv 0) rfl) (pe_ix ix_seq (pv 1) pe_int (fun _ _ => rfl)) (fun _ _ => rfl))))))))) (pss_one (ps_ret (pe_ix ix_seq (pv 1) pe_int (fun _ _ => rfl)))) pss_nil)
      (pss_one (ps_ret pe_int)))))), ?_⟩
  show (_ : L2.St → Hp → Prop) [some x0, some x1, some x2, none] H
  try dsimp only [cx_K, cx_K']
  obtain ⟨p, dx, fl, st, o, sg, rfl, hS, ⟨t, rfl, ht⟩, rfl, ⟨bh, ok⟩, hw, q⟩ := h
  cases o with
  | sign c k =>
    simp only [skT] at q
    walk_at "tg"
    refine r_ifn (fun e => ?_) (fun e => ?_)
    · rw [if_neg e] at q
      walk_at "tg"
      exact q
    · rw [if_pos e] at q
      walk_at "tg"
      exact q
  | kept c k =>
    simp only [skT] at q
    walk_at "tg"
    refine r_kFld hS.1 T.cl_Sp T.n_kept rfl ?_
    walk_at "go"
    refine r_ifn (fun e => ?_) (fun e => ?_)
    · rw [if_neg e] at q
      walk_at "tg"
      exact q
    · rw [if_pos e] at q
      walk_at "tg"
      exact q
  | up f k =>
    obtain ⟨hf, hk⟩ : Rg4 f ∧ Skp k bh := ok
    simp only [skT] at q
    walk_at "tg"
    refine r_kFld hS.1 T.cl_Sp T.n_flags rfl ?_
    walk_at "tg"
    refine r_ixL (.of hS.2) (at_flag hw.fl hf) ?_
    walk_at "go"
    cases hb : st.fl.getD f.toNat false with
    | true =>
      rw [hb, if_pos rfl] at q
      refine r_ff ?_
      walk_at "tg"
      exact q
    | false =>
      rw [hb, if_neg (by decide)] at q
      refine r_tt ?_
      walk_at "tg"
      exact q
  | down f k =>
    obtain ⟨hf, hk⟩ : Rg4 f ∧ Skp k bh := ok
    simp only [skT] at q
    walk_at "tg"
    refine r_kFld hS.1 T.cl_Sp T.n_flags rfl ?_
    walk_at "tg"
    refine r_ixL (.of hS.2) (at_flag hw.fl hf) ?_
    walk_at "go"
    cases hb : st.fl.getD f.toNat false with
    | true =>
      rw [hb, if_pos rfl] at q
      walk_at "tg"
      exact q
    | false =>
      rw [hb, if_neg (by decide)] at q
      walk_at "tg"
      exact q
  | _ =>
    walk_at "tg"
    exact q
theorem ok_Speller_execute {P : Program} {w : World} {K : PySem.W.Frag} {mg : Str → Option Value} {base : Heap} (T : Tx K w mg) (c_Speller_do : Mcl P w K mg base CX0 1 "Speller" "do" ["self", "order", "sign"] (spDo K)) (c_Speller_skipped : Mcl P w K mg base CX0 1 "Speller" "skipped" ["self", "order", "sign"] (spSkT K)) : Mcl P w K mg base CX0 2 "Speller" "execute" ["self", "orders", "sign"] (spExT K) := by
  refine mcl_mk T.d_Speller_execute sc_Speller_execute (fun _ _ _ _ h => sp3_len h) (fun _ _ _ _ _ _ us hl => match us, hl with | [_, _, _], _ => rfl) fun f cdv A outer s H vs Q E hr h => ?_
  obtain ⟨x0, x1, x2, rfl, h⟩ := h
  refine ⟨_, PSs.nox (pss_cons (ps_set (i := 3) sc_Speller_execute.nd rfl (Or.inl rfl) (pe_lstG pa_nil))
      (pss_cons (ps_set (i := 4) sc_Speller_execute.nd rfl (Or.inl rfl) pe_int)
      (pss_cons (ps_while PassesOwn.never (pt_cmpG op_ltA (pv 4) (pe_callB c_len (by rfl) T.len bt_len (pa_cons (pv 1) pa_nil)) (nomark _)) (pss_cons (ps_set (i := 5) sc_Speller_execute.nd rfl (Or.inl rfl) (pe_ix ix_seq (pv 1) (pv 4) (fun _ _ => rfl)))
      (pss_cons (ps_expr (pe_bmG PySem.F.plainAttrs_list PySem.F.slot_list_append PySem.F.type_list_append mt_append (pv 3) (pa_cons (pv 4) pa_nil)))
      (pss_cons (ps_if (pt_cmpG op_inA (pe_ix ix_seq (pv 5) pe_int (fun _ _ => rfl)) (pe_tupG (pa_cons pe_str (pa_cons pe_str pa_nil))) rfl) (pss_one (ps_ret (pe_tupG (pa_cons (pv 3) (pa_cons (pe_cmpR (op_eqA (hu64 hr)) (pe_ix ix_seq (pv 5) pe_int (fun _ _ => rfl)) pe_str (nomark _)) pa_nil))))) pss_nil)
      (pss_cons (ps_expr (pe_methC (pv 0) c_Speller_do (hr.mono (by decide)) pass0 (pa_cons (pv 5) (pa_cons (pv 2) pa_nil))))
      (pss_one (ps_aug (i := 4) sc_Speller_execute.nd rfl (Or.inl rfl) (pe_op op_addA pe_int (pe_methC (pv 0) c_Speller_skipped (hr.mono (by decide)) pass0 (pa_cons (pv 5) (pa_cons (pv 2) pa_nil)))) ip_add)))))))
      (pss_one (ps_ret (pe_tupG (pa_cons (pv 3) (pa_cons pe_bl pa_nil)))))))), ?_⟩
  show (_ : L2.St → Hp → Prop) [some x0, some x1, some x2, none, none, none] H
  try dsimp only [cx_K, cx_K']
  obtain ⟨p, dx, fl, l, st, vs, os, sg, W, rfl, rfl, rfl, hS, hl, n1, n2, ha, hok, hlen, hs, hw, hW, q⟩ := h
  have hvl := ha.length
  have npf := hS.ne
  walk_at "go"
  rename_i pl H1 nl1 f1 h1
  refine f_while (fun m σ' H' => ∃ (a : Nat) (path : List V) (st' : TS) (y5 : Option V), σ' = [some (V.ref p), some (V.ref l), some (V.str sg), some (V.ref pl), some (V.int a), y5] ∧ Fr [p, fl] H H' ∧ SpAt K H' p dx fl st' ∧ H' pl = some (.lst path) ∧ m = os.length - a ∧
    trun os sg (os.length - a) a st' = trunO os sg st ∧ path.length ≤ a ∧ pl ≠ p ∧ pl ≠ fl ∧ pl ≠ l ∧ TSok st' (W + 8 * path.length)) os.length ?_ ?_
  · exact ⟨0, [], st, none, rfl, f1.any, hS.fr f1 List.not_mem_nil List.not_mem_nil, h1, rfl, rfl, Nat.le_refl _, (ne_of_none hS.1 nl1).symm, (ne_of_none hS.2 nl1).symm, (ne_of_none hl nl1).symm, hw⟩
  · rintro m σ' H2 ⟨a, path, st', y5, rfl, f2, hS2, h2, rfl, hrun, hpl, nplp, nplf, npll, hw2⟩
    have hl2 := f2.get hl (show l ∉ [p, fl] by simp [n1, n2])
    have ha2 := ha.fr f2
    walk_at "go"
    refine r_lenL (.of hl2) ?_
    walk_at "go"
    refine r_if (fun c => ?_) (fun c => ?_)
    · have hlt : a < vs.length := by omega
      obtain ⟨o, ho, t, hvt, ht⟩ := ha2.get (List.getElem?_eq_getElem hlt)
      have hk := hok a o ho
      have hfu : os.length - a = (os.length - a - 1) + 1 := by omega
      walk_at "go"
      refine r_ixL (.of hl2) (atI_nat (List.getElem?_eq_getElem hlt)) ?_
      rw [hvt]
      walk_at "go"
      walk_at "tyL"
      walk_at "go"
      refine r_append h2 (by omega) fun H3 f3 h3 => ?_
      have ht3 := f3.tup ht
      have hS3 := hS2.fr f3 (by simpa using nplp.symm) (by simpa using nplf.symm)
      have fr3 : Fr [p, fl] H H3 := f3.stepN f2 nl1
      walk_at "go"
      refine r_ixT (.of ht3) o.at0 ?_
      walk_at "go"
      rename_i tp H4 n4 f4 h4
      refine r_inS ["next", "lose"] (.inr (.of h4)) ?_
      walk_at "go"
      have hS4 := hS3.fr f4 List.not_mem_nil List.not_mem_nil
      have ht4 := f4.tup ht3
      refine r_if (fun e => ?_) (fun e => ?_)
      · have e' : o = .next ∨ o = .lose := by
          simp only [List.mem_cons, List.not_mem_nil, or_false] at e
          exact e.imp Td.isNext Td.isLose
        walk_at "go"
        refine r_ixT (.of ht4) o.at0 ?_
        walk_at "go"
        rename_i tq H5 n5 f5 h5
        rw [hfu, trun, ho] at hrun
        have fr5 : Fr [p, fl] H H5 := f5.step0 (f4.step0 fr3)
        have hS5 := hS4.fr f5 List.not_mem_nil List.not_mem_nil
        rcases e' with rfl | rfl
        · have r1 : (st', true) = trunO os sg st := hrun
          refine q tq pl H5 fr5 ?_ ?_
          · rw [← r1]; exact hS5
          · rw [← r1]; exact h5
        · have r1 : (st', false) = trunO os sg st := hrun
          refine q tq pl H5 fr5 ?_ ?_
          · rw [← r1]; exact hS5
          · rw [← r1]; exact h5
      · have e1 : ¬ o.word = "next" := fun z => e (by rw [z]; exact List.mem_cons_self ..)
        have e2 : ¬ o.word = "lose" := fun z => e (by rw [z]; exact List.mem_cons_of_mem _ (List.mem_cons_self ..))
        have hwb : TSok st' 16000000 := ⟨hw2.fl, hw2.kp, by have := hw2.wr; omega, hw2.so⟩
        walk_at "go"
        refine r_kMeth hS4.1 rfl ?_
        walk_at "go"
        refine u_do hS4 ⟨t, rfl, ht4⟩ hk hs hwb fun H5 f5 hS5 => ?_
        have hw5 := hw2.eff hk hs
        walk_at "go"
        refine r_kMeth hS5.1 rfl ?_
        walk_at "go"
        refine u_skT hS5 ⟨t, rfl, f5.tup ht4⟩ hk ⟨hw5.fl, hw5.kp, by have := hw5.wr; omega, hw5.so⟩ ?_
        walk_at "go"
        have nn : 0 ≤ skT st' sg o := skT_nn hk
        refine ⟨os.length - (a + 1 + (skT st' sg o).toNat), by omega, a + 1 + (skT st' sg o).toNat, path ++ [.int a], eff st' sg o, some (.ref t), ?_, f5.stepS (f4.step0 fr3), hS5, f5.get (f4.get h3 List.not_mem_nil) (by simp [nplp, nplf]), rfl, ?_, ?_, nplp, nplf, npll, ?_⟩
        · have ei : (a : Int) + (1 + skT (eff st' sg o) sg o) = ((a + 1 + (skT st' sg o).toNat : Nat) : Int) := by rw [skT_eff]; omega
          rw [ei] <;> rfl
        · rw [← hrun, hfu, trun_step ho e1 e2]
          exact trun_fuel _ _ _ _ (by omega) (by omega)
        · rw [List.length_append, List.length_singleton]; omega
        · rw [List.length_append, List.length_singleton, show W + 8 * (path.length + 1) = W + 8 * path.length + 8 by omega]
          exact hw5
    · walk_at "go"
      rename_i tq H5 n5 f5 h5
      rw [trun_end (by omega)] at hrun
      have hS5 := hS2.fr f5 List.not_mem_nil List.not_mem_nil
      refine q tq pl H5 (f5.step0 f2) ?_ ?_
      · rw [← hrun]; exact hS5
      · rw [← hrun]; exact h5
theorem ok_text_image {P : Program} {w : World} {K : PySem.W.Frag} {mg : Str → Option Value} {base : Heap} (T : Tx K w mg) (m_Speller : Mak P w K mg base CX0 1 "Speller" ["self", "flags", "kept"] (spSpInit K)) (c_Speller_execute : Mcl P w K mg base CX0 2 "Speller" "execute" ["self", "orders", "sign"] (spExT K)) : Cal P w K mg base CX0 3 "text_image" ["recipe", "text"] (spTImg K) := by
  refine cal_mk T.d_text_image sc_text_image (fun _ _ _ _ h => sp2_len h) (fun _ _ _ _ _ _ us hl => match us, hl with | [_, _], _ => rfl) fun f cdv A outer s H vs Q E hr h => ?_
  obtain ⟨x0, x1, rfl, h⟩ := h
  refine ⟨_, PSs.nox (pss_cons (ps_set (i := 2) sc_text_image.nd rfl (Or.inl rfl) (pe_makeC m_Speller (hr.mono (by decide)) (by rfl) pass0 (pa_cons (pe_op op_mulA (pe_lstG (pa_cons pe_bl pa_nil)) (pe_globC (by rfl) T.g_FLAGS)) (pa_cons pe_str pa_nil))))
      (pss_cons (ps_for PassesOwn.never rfl (pi_any (pv 1)) (pg_name (i := 3) sc_text_image.nd rfl (Or.inl rfl))
      (pss_one (ps_if (PW.pt (pw_or (pt_cmpG op_niA (pv 3) (pe_fldG (pv 0) rfl) rfl) (pw_or1 (pt_not (pt_truG (pe_ix ix_seq (pe_methC (pv 2) c_Speller_execute (hr.mono (by decide)) pass0 (pa_cons (pe_fldG (pv 0) rfl) (pa_cons (pv 3) pa_nil))) pe_int (fun _ _ => rfl))))))) (pss_one (ps_ret pe_non)) pss_nil)))
      (pss_cons (ps_if (pt_not (pt_truG (pe_ix ix_seq (pe_methC (pv 2) c_Speller_execute (hr.mono (by decide)) pass0 (pa_cons (pe_fldG (pv 0) rfl) (pa_cons pe_str pa_nil))) pe_int (fun _ _ => rfl)))) (pss_one (ps_ret pe_non)) pss_nil)
      (pss_one (ps_ret (pe_fldG (pv 2) rfl)))))), ?_⟩
  show (_ : L2.St → Hp → Prop) [some x0, some x1, none, none] H
  try dsimp only [cx_K, cx_K']
  obtain ⟨p, ls, body, fin, z, rfl, rfl, hT, hls, okb, okf, hlb, hlf, hz, q⟩ := h
  obtain ⟨dx0, bl, fl0, bv, fv, hp, hbl, hfl0, hbv, hfv⟩ := hT.ex
  walk_at "go"
  rename_i p1 H1 n1 f1 h1
  refine r_mulL h1 (by decide) (by decide) fun l2 H2 n2 f2 h2 => ?_
  walk_at "go"
  refine r_kMake fun x dx H3 n3 f3 h3 => ?_
  refine u_spInit h3 (.of (f3.get h2 List.not_mem_nil)) fun fl H4 f4 n4 h4 h4x => ?_
  refine ⟨rfl, ?_⟩
  have hS4 : SpAt K H4 x dx fl st0 := ⟨h4x, h4⟩
  have nx0 : H x = none := f1.dom (f2.dom n3)
  have nfl0 : H fl = none := f1.dom (f2.dom (f3.dom n4))
  have fr4 : Fr [x, fl] H H4 := f4.stepL ((f3.step0 (f2.step0 f1)).any) (List.mem_cons_self ..)
  have no : ∀ {a : Addr} {o : HO}, H a = some o → a ∉ [x, fl] := fun h z => by
    simp only [List.mem_cons, List.not_mem_nil, or_false] at z
    rcases z with rfl | rfl
    · rw [h] at nx0; cases nx0
    · rw [h] at nfl0; cases nfl0
  have nn : ∀ {a : Addr} {o : HO}, H a = some o → a ≠ x ∧ a ≠ fl := fun h => by have := no h; simpa using this
  walk_at "go"
  refine r_itS ?_
  have hzl : z.cps.size = z.cps.toList.length := by simp
  have hzl2 : z.length = z.cps.size := rfl
  refine f_str (fun i σ' H' => ∃ (x3 : Option V) (st : TS), σ' = [some (V.ref p), some (V.str z), some (V.ref x), x3] ∧ Fr [x, fl] H H' ∧ SpAt K H' x dx fl st ∧ spellC ls body (z.cps.toList.drop i) st = spellC ls body z.cps.toList st0 ∧ TSok st (8 * 400 * i)) ?_ ?_ ?_
  · exact ⟨none, st0, rfl, fr4, hS4, rfl, ⟨rfl, by decide, by decide, by decide +kernel, by decide +kernel⟩⟩
  · rintro i c σ' H5 hc ⟨x3, st, rfl, f5, hS5, hsp, hw⟩
    have hi : i < z.cps.toList.length := by
      have := (Array.getElem?_eq_some_iff.mp hc).1
      omega
    have hci : z.cps.toList[i] = c := by
      have := (Array.getElem?_eq_some_iff.mp hc).2
      simpa using this
    rw [List.drop_eq_getElem_cons hi, hci] at hsp
    have hbl5 := f5.get hbl (no hbl)
    have hp5 := f5.get hp (no hp)
    walk_at "go"
    refine r_kFld hp5 T.cl_TR T.n_letters rfl ?_
    refine r_niC ?_
    walk_at "go"
    refine r_ifn (fun nin => ?_) (fun hin => ?_)
    · walk_at "go"
      rw [spell_no (fun z => nin z.1)] at hsp
      have e : spellO ls body fin z.cps.toList = none := by unfold spellO; rw [← hsp]
      rw [e] at q
      exact q _ ⟨fun h n => f5.get h (no h), f5.tup, f5.dom⟩
    · walk_at "go"
      refine r_kMeth hS5.1 rfl ?_
      walk_at "go"
      refine r_kFld hp5 T.cl_TR T.n_body rfl ?_
      walk_at "go"
      refine u_exT (W := 8 * 400 * i) hS5 hbl5 (nn hbl).1 (nn hbl).2 (hbv.fr f5) okb (by omega) ⟨Nat.le_refl 1, strOk_mem hls hin⟩ hw (by omega) fun t pl H6 f6 hS6 h6 => ?_
      refine r_ixT (.of h6) (v := .bl (trunO body (sg1 c) st).2) (by rfl) ?_
      walk_at "go"
      cases hb : (trunO body (sg1 c) st).2 with
      | true =>
        refine r_ff ?_
        walk_at "go"
        refine ⟨_, (trunO body (sg1 c) st).1, rfl, f6.stepS f5, hS6, ?_, ?_⟩
        · rw [← hsp, spell_cons hin hb]
        · have := trun_ok okb (show SgOk (sg1 c) from ⟨Nat.le_refl 1, strOk_mem hls hin⟩) body.length 0 st _ hw
          exact ⟨this.fl, this.kp, by have := this.wr; show (trun body (sg1 c) body.length 0 st).1.wr.length ≤ _; omega, this.so⟩
      | false =>
        refine r_tt ?_
        walk_at "go"
        rw [spell_no (fun z => by rw [hb] at z; cases z.2)] at hsp
        have e : spellO ls body fin z.cps.toList = none := by unfold spellO; rw [← hsp]
        rw [e] at q
        have fr6 : Fr [x, fl] H H6 := f6.stepS f5
        exact q _ ⟨fun h n => fr6.get h (no h), fr6.tup, fr6.dom⟩
  · rintro σ' H5 ⟨x3, st, rfl, f5, hS5, hsp, hw⟩
    rw [List.drop_of_length_le (by omega)] at hsp
    have hsp2 : spellC ls body z.cps.toList st0 = some st := hsp.symm
    have hfl5 := f5.get hfl0 (no hfl0)
    have hp5 := f5.get hp (no hp)
    walk_at "go"
    refine r_kMeth hS5.1 rfl ?_
    walk_at "go"
    refine r_kFld hp5 T.cl_TR T.n_finish rfl ?_
    walk_at "go"
    refine u_exT (W := 8 * 400 * z.cps.size) hS5 hfl5 (nn hfl0).1 (nn hfl0).2 (hfv.fr f5) okf (by omega) ⟨by decide, by decide +kernel⟩ hw (by omega) fun t pl H6 f6 hS6 h6 => ?_
    refine r_ixT (.of h6) (v := .bl (trunO fin "" st).2) (by rfl) ?_
    walk_at "go"
    have fr6 : Fr [x, fl] H H6 := f6.stepS f5
    have fr6' : Fr [] H H6 := ⟨fun h n => fr6.get h (no h), fr6.tup, fr6.dom⟩
    cases hb : (trunO fin "" st).2 with
    | true =>
      refine r_ff ?_
      walk_at "go"
      refine r_kFld hS6.1 T.cl_Sp T.n_written rfl ?_
      have e : spellO ls body fin z.cps.toList = some (trunO fin "" st).1.wr := by unfold spellO; rw [hsp2]; exact if_pos hb
      rw [e] at q
      exact q _ fr6'
    | false =>
      refine r_tt ?_
      walk_at "go"
      have e : spellO ls body fin z.cps.toList = none := by unfold spellO; rw [hsp2]; exact if_neg (by rw [hb]; decide)
      rw [e] at q
      exact q _ fr6'
theorem ok_TextRecipe___init__ {P : Program} {w : World} {K : PySem.W.Frag} {mg : Str → Option Value} {base : Heap} (T : Tx K w mg) (c_check_letters : Cal P w K mg base CX0 1 "check_letters" ["letters"] spLetters) (c_check_orders : Cal P w K mg base CX0 3 "check_orders" ["part", "orders", "letters"] spCheckG) : Mak P w K mg base CX0 4 "TextRecipe" ["self", "letters", "body", "finish"] (spTxInit K) := by
  refine mak_mk T.d_TextRecipe___init__ sc_TextRecipe___init__ (fun _ _ _ _ h => sp4_len h) (fun _ _ _ _ _ _ us hl => match us, hl with | [_, _, _, _], _ => rfl) fun f cdv A outer s H vs Q E hr h => ?_
  obtain ⟨x0, x1, x2, x3, rfl, h⟩ := h
  refine ⟨_, PSs.nox (pss_cons (ps_if (pt_cmpG op_gtA (pe_op op_addA (pe_callB c_len (by rfl) T.len bt_len (pa_cons (pv 2) pa_nil)) (pe_callB c_len (by rfl) T.len bt_len (pa_cons (pv 3) pa_nil))) (pe_globC (by rfl) T.g_MOST_ORDERS) (nomark _)) (pss_one ps_never) pss_nil)
      (pss_cons (ps_expr (pe_callC c_check_letters (hr.mono (by decide)) (by rfl) pass0 (pa_cons (pv 1) pa_nil)))
      (pss_cons (ps_expr (pe_callC c_check_orders (hr.mono (by decide)) (by rfl) pass0 (pa_cons pe_str (pa_cons (pv 2) (pa_cons (pv 1) pa_nil)))))
      (pss_cons (ps_expr (pe_callC c_check_orders (hr.mono (by decide)) (by rfl) pass0 (pa_cons pe_str (pa_cons (pv 3) (pa_cons (pv 1) pa_nil)))))
      (pss_cons (ps_fldG (pv 0) (pv 1) rfl)
      (pss_cons (ps_fldG (pv 0) (pe_callTy c_listOf (by rfl) T.list bt_list (pa_cons (pv 2) pa_nil)) rfl)
      (pss_one (ps_fldG (pv 0) (pe_callTy c_listOf (by rfl) T.list bt_list (pa_cons (pv 3) pa_nil)) rfl)))))))), ?_⟩
  show (_ : L2.St → Hp → Prop) [some x0, some x1, some x2, some x3] H
  try dsimp only [cx_K, cx_K']
  obtain ⟨x, dx, bl, fl, bv, fv, ls, body, fin, rfl, rfl, rfl, rfl, hx, hbl, hfl, hbv, hfv, okb, okf, hls, hlen, q⟩ := h
  have l1 := hbv.length
  have l2 := hfv.length
  walk_at "go"
  refine r_lenL (.of hbl) ?_
  walk_at "go"
  refine r_lenL (.of hfl) ?_
  walk_at "go"
  refine r_df (by omega) ?_
  walk_at "go"
  refine u_letters hls ?_
  walk_at "go"
  refine u_checkG (part := "body") hbl hbv.dss (TOks.dss (b := true) okb) (by rw [List.length_map]; omega) fun H1 f1 => ?_
  walk_at "go"
  refine u_checkG (part := "finish") (f1.get hfl List.not_mem_nil) (hfv.fr f1).dss (TOks.dss (b := false) okf) (by rw [List.length_map]; omega) fun H2 f2 => ?_
  walk_at "go"
  have f2' := f2.step0 f1
  refine r_kSetF (f2'.get hx List.not_mem_nil) T.cl_TR T.n_letters (Nat.le_of_ble_eq_true rfl) fun H3 f3 h3 => ?_
  have hne : ∀ {a : Addr} {xs : List V}, H a = some (.lst xs) → a ∉ [x] := fun h z => by
    rw [List.mem_singleton.mp z, hx] at h
    cases h
  have f3' : Fr [x] H H3 := f3.stepS f2'.any
  walk_at "go"
  refine r_listOf (.inl (.of (f3'.get hbl (hne hbl)))) fun b2 H4 n4 f4 h4 => ?_
  walk_at "go"
  refine r_kSetF (f4.get h3 List.not_mem_nil) T.cl_TR T.n_body (Nat.le_of_ble_eq_true rfl) fun H5 f5 h5 => ?_
  have f5' : Fr [x] H H5 := f5.stepS (f4.step0 f3')
  have nb2 : b2 ∉ [x] := fun z => by
    rw [List.mem_singleton.mp z, h3] at n4
    cases n4
  walk_at "go"
  refine r_listOf (.inl (.of (f5'.get hfl (hne hfl)))) fun f2a H6 n6 f6 h6 => ?_
  walk_at "go"
  refine r_kSetF (f6.get h5 List.not_mem_nil) T.cl_TR T.n_finish (Nat.le_of_ble_eq_true rfl) fun H7 f7 h7 => ?_
  walk_at "go"
  have nf2 : f2a ∉ [x] := fun z => by
    rw [List.mem_singleton.mp z, h5] at n6
    cases n6
  exact q b2 f2a H7 (f7.stepS (f6.step0 f5')) (f3'.dom n4) (f5'.dom n6) h7 (f7.get (f6.get (f5.get h4 nb2) List.not_mem_nil) nb2) (f7.get h6 nf2)
theorem ok_law_text_order {P : Program} {w : World} {K : PySem.W.Frag} {mg : Str → Option Value} {base : Heap} (T : Tx K w mg) (c_law_take : Cal P w K mg base CX0 1 "_law_take" ["deck", "many"] spTake) : Cal P w K mg base CX0 2 "_law_text_order" ["deck", "letters", "behind", "is_body"] (spTord K) := by
  refine cal_mk T.d_law_text_order sc_law_text_order (fun _ _ _ _ h => sp4_len h) (fun _ _ _ _ _ _ us hl => match us, hl with | [_, _, _, _], _ => rfl) fun f cdv A outer s H vs Q E hr h => ?_
  obtain ⟨x0, x1, x2, x3, rfl, h⟩ := h
  refine ⟨_, PSs.nox (pss_cons (ps_set (i := 4) sc_law_text_order.nd rfl (Or.inl rfl) pe_str)
      (pss_cons (ps_set (i := 5) sc_law_text_order.nd rfl (Or.inl rfl) (pe_ix ix_seq (pe_bmG PySem.F.plainAttrs_str PySem.F.slot_str_split PySem.F.type_str_split mt_splitG (pe_op op_addA (pv 4) pe_str) (pa_cons pe_str pa_nil)) (pe_callC c_law_take (hr.mono (by decide)) (by rfl) pass0 (pa_cons (pv 0) (pa_cons pe_int pa_nil))) (fun _ _ => rfl)))
      (pss_cons (ps_set (i := 6) sc_law_text_order.nd rfl (Or.inl rfl) (pe_callB (c_min2 rfl) (by rfl) T.min bt_min (pa_cons (pv 2) (pa_cons (pe_ix ix_seq (pe_lstG (pa_cons pe_int (pa_cons pe_int (pa_cons pe_int (pa_cons pe_int (pa_cons pe_int (pa_cons (pe_callC c_law_take (hr.mono (by decide)) (by rfl) pass0 (pa_cons (pv 0) (pa_cons pe_int pa_nil))) pa_nil))))))) (pe_callC c_law_take (hr.mono (by decide)) (by rfl) pass0 (pa_cons (pv 0) (pa_cons pe_int pa_nil))) (fun _ _ => rfl)) pa_nil))))
      (pss_cons (ps_set (i := 7) sc_law_text_order.nd rfl (Or.inl rfl) (pe_ix ix_seq (pe_lstG (pa_cons pe_int (pa_cons pe_int (pa_cons pe_int (pa_cons pe_int (pa_cons pe_int (pa_cons pe_int pa_nil))))))) (pe_callC c_law_take (hr.mono (by decide)) (by rfl) pass0 (pa_cons (pv 0) (pa_cons pe_int pa_nil))) (fun _ _ => rfl)))
      (pss_cut (ps_if (PW.pt (pw_or (PW.pt (pw_and (pt_cmpG op_inA (pv 5) (pe_lstG (pa_cons pe_str (pa_cons pe_str (pa_cons pe_str pa_nil)))) rfl) (pw_and1 (pt_not (pt_truG (pv 3)))))) (pw_or1 (PW.pt (pw_and (pt_cmpG op_inA (pv 5) (pe_lstG (pa_cons pe_str (pa_cons pe_str pa_nil))) rfl) (pw_and1 (pt_cmpG (op_eqA (hu64 hr)) (pe_callB c_len (by rfl) T.len bt_len (pa_cons (pv 1) pa_nil)) pe_int (nomark _)))))))) (pss_one (ps_set (i := 5) sc_law_text_order.nd rfl (Or.inl rfl) pe_str)) pss_nil)
      (pss_cons (ps_if (pt_cmpG op_inA (pv 5) (pe_lstG (pa_cons pe_str (pa_cons pe_str pa_nil))) rfl) (pss_one (ps_ret (pe_tupG (pa_cons (pv 5) (pa_cons (pe_ix ix_seq (pv 1) (pe_callC c_law_take (hr.mono (by decide)) (by rfl) pass0 (pa_cons (pv 0) (pa_cons (pe_callB c_len (by rfl) T.len bt_len (pa_cons (pv 1) pa_nil)) pa_nil))) (fun _ _ => rfl)) (pa_cons (pv 6) pa_nil)))))) pss_nil)
      (pss_cons (ps_if (pt_cmpG (op_eqA (hu64 hr)) (pv 5) pe_str (nomark _)) (pss_one (ps_ret (pe_tupG (pa_cons (pv 5) (pa_cons (pe_ix ix_seq (pe_lstG (pa_cons pe_str (pa_cons pe_str (pa_cons pe_str (pa_cons pe_str (pa_cons pe_str pa_nil)))))) (pe_callC c_law_take (hr.mono (by decide)) (by rfl) pass0 (pa_cons (pv 0) (pa_cons pe_int pa_nil))) (fun _ _ => rfl)) pa_nil))))) pss_nil)
      (pss_cons (ps_if (pt_cmpG op_inA (pv 5) (pe_lstG (pa_cons pe_str (pa_cons pe_str pa_nil))) rfl) (pss_one (ps_ret (pe_tupG (pa_cons (pv 5) (pa_cons (pv 7) pa_nil))))) pss_nil)
      (pss_cons (ps_if (pt_cmpG op_inA (pv 5) (pe_lstG (pa_cons pe_str (pa_cons pe_str pa_nil))) rfl) (pss_one (ps_ret (pe_tupG (pa_cons (pv 5) (pa_cons (pv 7) (pa_cons (pv 6) pa_nil)))))) pss_nil)
      (pss_cons (ps_if (pt_cmpG (op_eqA (hu64 hr)) (pv 5) pe_str (nomark _)) (pss_one (ps_ret (pe_tupG (pa_cons (pv 5) (pa_cons (pv 6) pa_nil))))) pss_nil)
      (pss_cons (ps_if (PW.pt (pw_and (pt_cmpG (op_eqA (hu64 hr)) (pv 5) pe_str (nomark _)) (pw_and1 (pt_cmpG op_gtA (pe_callC c_law_take (hr.mono (by decide)) (by rfl) pass0 (pa_cons (pv 0) (pa_cons pe_int pa_nil))) pe_int (nomark _))))) (pss_one (ps_ret (pe_tupG (pa_cons pe_str (pa_cons pe_str pa_nil))))) pss_nil)
      (pss_one (ps_ret (pe_tupG (pa_cons (pv 5) pa_nil))))))))))))))), ?_⟩
  show (_ : L2.St → Hp → Prop) [some x0, some x1, some x2, some x3, none, none, none, none] H
  try dsimp only [cx_K, cx_K']
  obtain ⟨l, ls, b0, isB, rfl, rfl, rfl, rfl, hb, hl, hD, q⟩ := h
  walk_at "go"
  refine r_addS (by decide +kernel) ?_
  walk_at "go"
  refine r_split (by decide +kernel) (by decide +kernel) tSplit fun pw H1 n1 f1 h1 => ?_
  walk_at "dr"
  rename_i rw Hw aw bw fw Dw
  refine r_ixP (xs := tWords.map V.str) (by walk_at "sq") aw bw fun v hv => ?_
  obtain ⟨w, hw, rfl⟩ := List.mem_map.mp hv
  have hw2 := tWords_in w hw
  walk_at "dr"
  walk_at "ixP"
  rename_i v2 hv2
  obtain ⟨k, rfl, hk⟩ : ∃ k : Int, v2 = .int k ∧ 0 ≤ k := by rcases hv2 with rfl | rfl | rfl | rfl | rfl | rfl <;> exact ⟨_, rfl, by omega⟩
  walk_at "dr"
  have hs0 : 0 ≤ (if k < b0 then k else b0) := by split <;> omega
  have hs1 : (if k < b0 then k else b0) ≤ b0 := by split <;> omega
  generalize (if k < b0 then k else b0) = sk at hs0 hs1 ⊢
  walk_at "ixP"
  rename_i v3 hv3
  obtain ⟨fg, rfl, hfg⟩ : ∃ k : Int, v3 = .int k ∧ Rg4 k := by rcases hv3 with rfl | rfl | rfl | rfl | rfl | rfl <;> exact ⟨_, rfl, by constructor <;> omega⟩
  rename_i Hz _ _ _ Dz
  have fz : Fr [l] H Hz := by walk_at "fr"
  have Dz : Dk Hz l := by walk_at "dk"
  clear hv hw hv2 hv3
  walk_at "go"
  refine r_cut (fun σ' H' => ∃ w', σ' = [some (V.ref l), some (V.str ls), some (V.int b0), some (V.bl isB), some (V.str "sign sign sign echo echo keep keep kept kept pay pay write write raise raise lower up up down skip next"), some (V.str w'), some (V.int sk), some (V.int fg)] ∧ Fr [l] H H' ∧ Dk H' l ∧
    (w' = "sign" ∨ w' = "echo" ∨ w' = "keep" → isB = true) ∧ (w' = "sign" ∨ w' = "kept" → 0 < ls.length) ∧ w' ∈ tWordsS) ?_ ?_
  · have hpay : ("pay" : Str) ∈ tWordsS := by decide +kernel
    have nA : ∀ {P : Prop}, ("pay" : Str) = "sign" ∨ ("pay" : Str) = "echo" ∨ ("pay" : Str) = "keep" → P := fun h => absurd h (by decide +kernel)
    have nB : ∀ {P : Prop}, ("pay" : Str) = "sign" ∨ ("pay" : Str) = "kept" → P := fun h => absurd h (by decide +kernel)
    walk_at "go"
    refine r_inS ["sign", "echo", "keep"] (.inl (by walk_at "sq")) ?_
    walk_at "go"
    refine r_if (fun eA => ?_) (fun eA => ?_)
    · cases isB with
      | false =>
        walk_at "go"
        refine r_tt ?_
        walk_at "go"
        exact ⟨_, rfl, by walk_at "fr", by walk_at "dk", nA, nB, hpay⟩
      | true =>
        walk_at "go"
        refine r_ff ?_
        walk_at "go"
        refine r_inS ["sign", "kept"] (.inl (by walk_at "sq")) ?_
        walk_at "go"
        refine r_if (fun eB => ?_) (fun eB => ?_)
        · walk_at "go"
          refine r_lenS (by omega) ?_
          walk_at "go"
          refine r_if (fun eC => ?_) (fun eC => ?_)
          · walk_at "go"
            exact ⟨_, rfl, by walk_at "fr", by walk_at "dk", nA, nB, hpay⟩
          · walk_at "go"
            exact ⟨_, rfl, by walk_at "fr", by walk_at "dk", fun _ => rfl, fun _ => by omega, hw2⟩
        · walk_at "go"
          exact ⟨_, rfl, by walk_at "fr", by walk_at "dk", fun _ => rfl, fun h => absurd (by simpa only [List.mem_cons, List.not_mem_nil, or_false] using h) eB, hw2⟩
    · walk_at "go"
      refine r_inS ["sign", "kept"] (.inl (by walk_at "sq")) ?_
      walk_at "go"
      refine r_if (fun eB => ?_) (fun eB => ?_)
      · walk_at "go"
        refine r_lenS (by omega) ?_
        walk_at "go"
        refine r_if (fun eC => ?_) (fun eC => ?_)
        · walk_at "go"
          exact ⟨_, rfl, by walk_at "fr", by walk_at "dk", nA, nB, hpay⟩
        · walk_at "go"
          exact ⟨_, rfl, by walk_at "fr", by walk_at "dk", fun h => absurd (by simpa only [List.mem_cons, List.not_mem_nil, or_false] using h) eA, fun _ => by omega, hw2⟩
      · walk_at "go"
        exact ⟨_, rfl, by walk_at "fr", by walk_at "dk", fun h => absurd (by simpa only [List.mem_cons, List.not_mem_nil, or_false] using h) eA, fun h => absurd (by simpa only [List.mem_cons, List.not_mem_nil, or_false] using h) eB, hw2⟩
  · rintro _ H2 ⟨w', rfl, f2, D2, hB, hL, hw'⟩
    walk_at "dr"
    refine r_inS ["sign", "kept"] (.inl (by walk_at "sq")) ?_
    walk_at "go"
    refine r_if (fun e => ?_) (fun e1 => ?_)
    · simp only [List.mem_cons, List.not_mem_nil, or_false] at e
      have hpos := hL e
      walk_at "go"
      refine r_lenS (by omega) ?_
      walk_at "go"
      refine c_take (by walk_at "dk") (by omega) fun r H3 ha hb2 f3 D3 => ?_
      obtain ⟨c, hc, hcm⟩ := at_lit (xs := ls.cps.toList) ha (by have : ls.length = ls.cps.toList.length := rfl; omega)
      refine r_ixS (by omega) hc ?_
      walk_at "dr"
      rcases e with rfl | rfl
      · exact q (.sign c sk) _ _ ⟨_, rfl, by assumption⟩ ⟨hB (.inl rfl), hcm, hs0, hs1⟩ (by walk_at "fr") (by walk_at "dk")
      · exact q (.kept c sk) _ _ ⟨_, rfl, by assumption⟩ ⟨hcm, hs0, hs1⟩ (by walk_at "fr") (by walk_at "dk")
    walk_at "dr"
    refine r_if (fun e => ?_) (fun e2 => ?_)
    · subst e
      walk_at "dr"
      walk_at "ixP"
      rename_i v4 hv4
      obtain ⟨z, rfl, hz⟩ : ∃ z : Str, v4 = .str z ∧ (z.length ≤ 8 ∧ PyData.strOk z = true) := by rcases hv4 with rfl | rfl | rfl | rfl | rfl <;> exact ⟨_, rfl, by decide +kernel, by decide +kernel⟩
      walk_at "dr"
      exact q (.write z) _ _ ⟨_, rfl, by assumption⟩ hz (by walk_at "fr") (by walk_at "dk")
    walk_at "dr"
    refine r_inS ["raise", "lower"] (.inl (by walk_at "sq")) ?_
    walk_at "go"
    refine r_if (fun e => ?_) (fun e3 => ?_)
    · simp only [List.mem_cons, List.not_mem_nil, or_false] at e
      walk_at "dr"
      rcases e with rfl | rfl
      · exact q (.raise fg) _ _ ⟨_, rfl, by assumption⟩ hfg (by walk_at "fr") (by walk_at "dk")
      · exact q (.lower fg) _ _ ⟨_, rfl, by assumption⟩ hfg (by walk_at "fr") (by walk_at "dk")
    walk_at "dr"
    refine r_inS ["up", "down"] (.inl (by walk_at "sq")) ?_
    walk_at "go"
    refine r_if (fun e => ?_) (fun e4 => ?_)
    · simp only [List.mem_cons, List.not_mem_nil, or_false] at e
      walk_at "dr"
      rcases e with rfl | rfl
      · exact q (.up fg sk) _ _ ⟨_, rfl, by assumption⟩ ⟨hfg, hs0, hs1⟩ (by walk_at "fr") (by walk_at "dk")
      · exact q (.down fg sk) _ _ ⟨_, rfl, by assumption⟩ ⟨hfg, hs0, hs1⟩ (by walk_at "fr") (by walk_at "dk")
    walk_at "dr"
    refine r_if (fun e => ?_) (fun e5 => ?_)
    · subst e
      walk_at "dr"
      exact q (.skip sk) _ _ ⟨_, rfl, by assumption⟩ ⟨hs0, hs1⟩ (by walk_at "fr") (by walk_at "dk")
    walk_at "dr"
    have fin : ∀ H9, Fr [l] H H9 → Dk H9 l → ∀ p, H9 p = some (.tup [.str w']) → w' ≠ "lose" ∨ w' = "lose" → Q (.ref p) H9 := fun H9 f9 D9 p h9 _ => by
      simp only [tWordsS, List.mem_cons, List.not_mem_nil, or_false] at hw'
      simp only [List.mem_cons, List.not_mem_nil, or_false, not_or] at e1 e3 e4
      rcases hw' with rfl | rfl | rfl | rfl | rfl | rfl | rfl | rfl | rfl | rfl | rfl | rfl | rfl
      · exact absurd rfl e1.1
      · exact q .echo _ _ ⟨_, rfl, h9⟩ (hB (.inr (.inl rfl))) f9 D9
      · exact q .keep _ _ ⟨_, rfl, h9⟩ (hB (.inr (.inr rfl))) f9 D9
      · exact absurd rfl e1.2
      · exact q .pay _ _ ⟨_, rfl, h9⟩ True.intro f9 D9
      · exact absurd rfl e2
      · exact absurd rfl e3.1
      · exact absurd rfl e3.2
      · exact absurd rfl e4.1
      · exact absurd rfl e4.2
      · exact absurd rfl e5
      · exact q .next _ _ ⟨_, rfl, h9⟩ True.intro f9 D9
      · exact q .lose _ _ ⟨_, rfl, h9⟩ True.intro f9 D9
    refine r_if (fun e => ?_) (fun e6 => ?_)
    · walk_at "dr"
      refine r_if (fun e7 => ?_) (fun e7 => ?_)
      · walk_at "dr"
        exact q (.write "z") _ _ ⟨_, rfl, by assumption⟩ (show ("z" : Str).length ≤ 8 ∧ PyData.strOk "z" = true from ⟨by decide +kernel, by decide +kernel⟩) (by walk_at "fr") (by walk_at "dk")
      · walk_at "dr"
        exact fin _ (by walk_at "fr") (by walk_at "dk") _ (by assumption) (.inr e)
    · walk_at "dr"
      exact fin _ (by walk_at "fr") (by walk_at "dk") _ (by assumption) (.inl e6)
theorem ok_law_text_recipe {P : Program} {w : World} {K : PySem.W.Frag} {mg : Str → Option Value} {base : Heap} (T : Tx K w mg) (c_law_take : Cal P w K mg base CX0 1 "_law_take" ["deck", "many"] spTake) (c_law_text_order : Cal P w K mg base CX0 2 "_law_text_order" ["deck", "letters", "behind", "is_body"] (spTord K)) : Cal P w K mg base CX0 3 "_law_text_recipe" ["deck"] spTrec := by
  refine cal_mk T.d_law_text_recipe sc_law_text_recipe (fun _ _ _ _ h => sp1_len h) (fun _ _ _ _ _ _ us hl => match us, hl with | [_], _ => rfl) fun f cdv A outer s H vs Q E hr h => ?_
  obtain ⟨x0, rfl, h⟩ := h
  refine ⟨_, PSs.nox (pss_cons (ps_set (i := 1) sc_law_text_recipe.nd rfl (Or.inr rfl) (pe_ix ix_seq (pe_lstG (pa_cons pe_str (pa_cons pe_str (pa_cons pe_str (pa_cons pe_str (pa_cons pe_str (pa_cons pe_str pa_nil))))))) (pe_callC c_law_take (hr.mono (by decide)) (by rfl) pass0 (pa_cons (pv 0) (pa_cons pe_int pa_nil))) (fun _ _ => rfl)))
      (pss_cons (ps_set (i := 2) sc_law_text_recipe.nd rfl (Or.inl rfl) (pe_lstG (pa_cons (pe_callC c_law_take (hr.mono (by decide)) (by rfl) pass0 (pa_cons (pv 0) (pa_cons pe_int pa_nil))) (pa_cons (pe_op op_addA pe_int (pe_callC c_law_take (hr.mono (by decide)) (by rfl) pass0 (pa_cons (pv 0) (pa_cons pe_int pa_nil)))) (pa_cons (pe_callC c_law_take (hr.mono (by decide)) (by rfl) pass0 (pa_cons (pv 0) (pa_cons pe_int pa_nil))) pa_nil)))))
      (pss_cons (ps_set (i := 3) sc_law_text_recipe.nd rfl (Or.inr rfl) (pe_ix ix_seq (pv 2) (pe_callC c_law_take (hr.mono (by decide)) (by rfl) pass0 (pa_cons (pv 0) (pa_cons pe_int pa_nil))) (fun _ _ => rfl)))
      (pss_cons (ps_setLc (i := 4) (own := [("at", 5)]) (g := gName 5) (tt := tYes) rfl sc_law_text_recipe.nd rfl rfl (sw_true rfl rfl rfl (by decide +kernel)) (pi_range1 (by rfl) T.range (pa_cons (pv 3) pa_nil)) (blkOk_by (own := [("at", 5)]) (N := ["deck", "letters", "sizes", "size", "body", "at"]) (sc := defScope s_law_text_recipe) (by decide +kernel)) (fun _ _ _ _ _ => pg_name (i := 5) sc_law_text_recipe.nd rfl (Or.inl rfl)) (fun _ _ _ _ _ => pts_nil) (fun _ _ _ _ _ => (pe_callC c_law_text_order (hr.mono (by decide)) (by rfl) pass0 (pa_cons (pv 0) (pa_cons (pv 1) (pa_cons (pe_op op_sub (pe_op op_sub (pv 3) (pv 5)) pe_int) (pa_cons pe_bl pa_nil)))))))
      (pss_cons (ps_set (i := 3) sc_law_text_recipe.nd rfl (Or.inr rfl) (pe_callC c_law_take (hr.mono (by decide)) (by rfl) pass0 (pa_cons (pv 0) (pa_cons pe_int pa_nil))))
      (pss_one (ps_ret (pe_tupG (pa_cons (pv 1) (pa_cons (pv 4) (pa_cons (pe_lc (own := [("at", 5)]) (g := gName 5) (tt := tYes) rfl sc_law_text_recipe.nd (pi_range1 (by rfl) T.range (pa_cons (pv 3) pa_nil)) (blkOk_by (own := [("at", 5)]) (N := ["deck", "letters", "sizes", "size", "body", "at"]) (sc := defScope s_law_text_recipe) (by decide +kernel)) (fun _ _ _ _ _ => pg_name (i := 5) sc_law_text_recipe.nd rfl (Or.inl rfl)) (fun _ _ _ _ _ => pts_nil) (fun _ _ _ _ _ => (pe_callC c_law_text_order (hr.mono (by decide)) (by rfl) pass0 (pa_cons (pv 0) (pa_cons (pv 1) (pa_cons (pe_op op_sub (pe_op op_sub (pv 3) (pv 5)) pe_int) (pa_cons pe_bl pa_nil))))))) pa_nil))))))))))), ?_⟩
  show (_ : L2.St → Hp → Prop) [some x0, none, none, none, none, none] H
  try dsimp only [cx_K, cx_K']
  obtain ⟨l, rfl, hD, q⟩ := h
  walk_at "dr"
  walk_at "ixP"
  rename_i v1 hv
  obtain ⟨ls, rfl, hls⟩ : ∃ z : Str, v1 = .str z ∧ z ∈ lsAll := by rcases hv with rfl | rfl | rfl | rfl | rfl | rfl <;> exact ⟨_, rfl, by decide +kernel⟩
  have hll := (ls_ok hls).2
  walk_at "dr"
  walk_at "ixP"
  rename_i v2 hv2
  obtain ⟨z, rfl, hz0, hz1⟩ : ∃ z : Int, v2 = .int z ∧ 0 ≤ z ∧ z ≤ 40 := by rcases hv2 with rfl | rfl | rfl <;> exact ⟨_, rfl, by omega, by omega⟩
  obtain ⟨sz, rfl⟩ := Int.eq_ofNat_of_zero_le hz0
  rename_i Hb _ _ _ Db
  have fb : Fr [l] H Hb := by walk_at "fr"
  have Db : Dk Hb l := by walk_at "dk"
  walk_at "go"
  refine r_kRng1 (by omega) ?_
  refine l_range (fun A i H' => A ≠ l ∧ ∃ vs os, H' A = some (.lst vs) ∧ TAts H' vs os ∧ os.length = i ∧ (∀ (j : Nat) o, os[j]? = some o → o.ok ((sz : Int) - j - 1) ls true) ∧ Fr [l] Hb H' ∧ Dk H' l) ?_ ?_ ?_
  · intro A H' n f h
    exact ⟨Db.ne n, [], [], h, .nil, rfl, (fun j o e => by simp at e), f.any, Db.fr f (by walk_at "ns")⟩
  · rintro A i H1 hA hi ⟨nA, vs, os, h1, ha, hlen, hok, f, D1⟩
    walk_at "wp"
    walk_at "go"
    refine r_kElt rfl ?_
    walk_at "go"
    refine u_tord D1 (by omega) (by omega) fun o v H2 ho hko f2 D2 => ?_
    have h2 := f2.get h1 (by walk_at "ns")
    have hvl := ha.length
    refine r_kAcc h2 (by omega) fun H3 f3 h3 => ?_
    refine ⟨nA, vs ++ [v], os ++ [o], h3, (ha.fr f2).app ho |>.fr f3, by rw [List.length_append, hlen]; rfl, ?_, f3.stepN (f2.stepS f) hA, D2.fr f3 (by walk_at "ns")⟩
    intro j o' e'
    by_cases hj : j < os.length
    · rw [List.getElem?_append_left hj] at e'
      exact hok j o' e'
    · rw [List.getElem?_append_right (by omega)] at e'
      have hj2 := (List.getElem?_eq_some_iff.mp e').1
      simp at hj2
      have : j = i := by omega
      subst this
      rw [hlen] at e'
      simp at e'
      subst e'
      have e : (sz : Int) - (0 + (j : Int)) - 1 = (sz : Int) - j - 1 := by omega
      rw [e] at hko
      exact hko
  · rintro bl H1 hA ⟨nA, bv, body, h1, ha, hlen, hok, f, D1⟩
    have hvl := ha.length
    have hblen : body.length = sz := by omega
    walk_at "dr"
    rename_i r3 H2 hr3 hr4 f2 D2
    obtain ⟨s2, rfl⟩ := Int.eq_ofNat_of_zero_le hr3
    refine r_kRng1 (by omega) ?_
    refine l_range (fun A i H' => A ≠ l ∧ H2 A = none ∧ ∃ vs os, H' A = some (.lst vs) ∧ TAts H' vs os ∧ os.length = i ∧ (∀ (j : Nat) o, os[j]? = some o → o.ok ((s2 : Int) - j - 1) ls false) ∧ Fr [l] H2 H' ∧ Dk H' l) ?_ ?_ ?_
    · intro A H' n f h
      exact ⟨D2.ne n, n, [], [], h, .nil, rfl, (fun j o e => by simp at e), f.any, D2.fr f (by walk_at "ns")⟩
    · rintro A i H3 hA2 hi ⟨nA2, nA20, vs, os, h3, ha3, hlen3, hok3, f3, D3⟩
      walk_at "wp"
      walk_at "go"
      refine r_kElt rfl ?_
      walk_at "go"
      refine u_tord D3 (by omega) (by omega) fun o v H4 ho hko f4 D4 => ?_
      have h4 := f4.get h3 (by walk_at "ns")
      have hvl3 := ha3.length
      refine r_kAcc h4 (by omega) fun H5 f5 h5 => ?_
      refine ⟨nA2, nA20, vs ++ [v], os ++ [o], h5, (ha3.fr f4).app ho |>.fr f5, by rw [List.length_append, hlen3]; rfl, ?_, f5.stepN (f4.stepS f3) hA2, D4.fr f5 (by walk_at "ns")⟩
      intro j o' e'
      by_cases hj : j < os.length
      · rw [List.getElem?_append_left hj] at e'
        exact hok3 j o' e'
      · rw [List.getElem?_append_right (by omega)] at e'
        have hj2 := (List.getElem?_eq_some_iff.mp e').1
        simp at hj2
        have : j = i := by omega
        subst this
        rw [hlen3] at e'
        simp at e'
        subst e'
        have e : (s2 : Int) - (0 + (j : Int)) - 1 = (s2 : Int) - j - 1 := by omega
        rw [e] at hko
        exact hko
    · rintro fl H3 hA2 ⟨nA2, nA20, fv, fin, h3, ha3, hlen3, hok3, f3, D3⟩
      have hvl3 := ha3.length
      have hflen : fin.length = s2 := by omega
      walk_at "go"
      rename_i tp H4 n4 f4 h4
      have g2 : Fr [l] Hb H2 := f2.stepS f
      have h1' : H2 bl = some (.lst bv) := f2.get h1 (by walk_at "ns")
      have nbf : bl ≠ fl := ne_of_none h1' nA20
      have f34 : Fr [l] H2 H4 := f4.step0 f3
      refine q tp bl fl bv fv ls body fin H4 hls h4 (f34.get h1' (by walk_at "ns")) (f4.get h3 List.not_mem_nil) ((ha.fr f2).fr f34) (ha3.fr f4) ?_ ?_ (by omega) (by omega) nbf (fb.dom hA) (fb.dom (g2.dom nA20)) (f34.stepS (g2.stepS fb)) (D3.fr f4 List.not_mem_nil)
      · intro j o e
        rw [hblen]
        exact hok j o e
      · intro j o e
        rw [hflen]
        exact hok3 j o e
theorem ok_law_part {P : Program} {w : World} {K : PySem.W.Frag} {mg : Str → Option Value} {base : Heap} (T : Tx K w mg) : Cal P w K mg base CX0 1 "_law_part" ["orders", "world", "sign"] spPart := by
  refine cal_mk T.d_law_part sc_law_part (fun _ _ _ _ h => sp3_len h) (fun _ _ _ _ _ _ us hl => match us, hl with | [_, _, _], _ => rfl) fun f cdv A outer s H vs Q E hr h => ?_
  obtain ⟨x0, x1, x2, rfl, h⟩ := h
  refine ⟨_, PSs.nox (pss_cons (ps_set (i := 3) sc_law_part.nd rfl (Or.inl rfl) pe_int)
      (pss_cons (ps_for PassesOwn.never rfl (pi_range1 (by rfl) T.range (pa_cons (pe_callB c_len (by rfl) T.len bt_len (pa_cons (pv 0) pa_nil)) pa_nil)) (pg_name (i := 4) sc_law_part.nd rfl (Or.inl rfl))
      (pss_cons (ps_if (pt_cmpG op_geA (pv 3) (pe_callB c_len (by rfl) T.len bt_len (pa_cons (pv 0) pa_nil)) (nomark _)) (pss_one (ps_ret pe_bl)) pss_nil)
      (pss_cons (ps_set (i := 5) sc_law_part.nd rfl (Or.inl rfl) (pe_ix ix_seq (pv 0) (pv 3) (fun _ _ => rfl)))
      (pss_cons (ps_set (i := 6) sc_law_part.nd rfl (Or.inl rfl) (pe_ix ix_seq (pv 5) pe_int (fun _ _ => rfl)))
      (pss_cons (ps_set (i := 3) sc_law_part.nd rfl (Or.inl rfl) (pe_op op_addA (pv 3) pe_int))
      (pss_cons (ps_if (pt_cmpG op_inA (pv 6) (pe_lstG (pa_cons pe_str (pa_cons pe_str pa_nil))) rfl) (pss_one (ps_ret (pe_cmpR (op_eqA (hu64 hr)) (pv 6) pe_str (nomark _)))) pss_nil)
      (pss_one (ps_if (pt_cmpG (op_eqA (hu64 hr)) (pv 6) pe_str (nomark _)) (pss_one (ps_dput (hu_of hr) (pv 1) pe_str (pe_op op_addA (pe_dget (hu_of hr) (pv 1) pe_str (fun _ _ => rfl)) (pv 2)) rfl)) (pss_one (ps_if (pt_cmpG (op_eqA (hu64 hr)) (pv 6) pe_str (nomark _)) (pss_one (ps_dput (hu_of hr) (pv 1) pe_str (pv 2) rfl)) (pss_one (ps_if (pt_cmpG (op_eqA (hu64 hr)) (pv 6) pe_str (nomark _)) (pss_cons (ps_dput (hu_of hr) (pv 1) pe_str (pe_op op_addA (pe_dget (hu_of hr) (pv 1) pe_str (fun _ _ => rfl)) (pe_dget (hu_of hr) (pv 1) pe_str (fun _ _ => rfl))) rfl)
      (pss_one (ps_dput (hu_of hr) (pv 1) pe_str pe_str rfl))) (pss_one (ps_if (pt_cmpG (op_eqA (hu64 hr)) (pv 6) pe_str (nomark _)) (pss_one (ps_dput (hu_of hr) (pv 1) pe_str (pe_op op_addA (pe_dget (hu_of hr) (pv 1) pe_str (fun _ _ => rfl)) (pe_ix ix_seq (pv 5) pe_int (fun _ _ => rfl))) rfl)) (pss_one (ps_if (pt_cmpG op_inA (pv 6) (pe_lstG (pa_cons pe_str (pa_cons pe_str pa_nil))) rfl) (pss_one (ps_asg (pe_cmpR (op_eqA (hu64 hr)) (pv 6) pe_str (nomark _)) (pg_sub (pe_dget (hu_of hr) (pv 1) pe_str (fun _ _ => rfl)) (pe_ix ix_seq (pv 5) pe_int (fun _ _ => rfl)) set_list))) (pss_one (ps_if (pt_cmpG (op_eqA (hu64 hr)) (pv 6) pe_str (nomark _)) (pss_one (ps_set (i := 3) sc_law_part.nd rfl (Or.inl rfl) (pe_op op_addA (pv 3) (pe_ix ix_seq (pv 5) pe_int (fun _ _ => rfl))))) (pss_one (ps_if (pt_cmpG (op_eqA (hu64 hr)) (pv 6) pe_str (nomark _)) (pss_one (ps_set (i := 3) sc_law_part.nd rfl (Or.inl rfl) (pe_op op_addA (pv 3) (pe_op op_mulA (pe_ix ix_seq (pv 5) pe_int (fun _ _ => rfl)) (pe_callTy c_int (by rfl) T.int bt_int (pa_cons (pe_cmpR (op_neA (hu64 hr)) (pv 2) (pe_ix ix_seq (pv 5) pe_int (fun _ _ => rfl)) (nomark _)) pa_nil)))))) (pss_one (ps_if (pt_cmpG (op_eqA (hu64 hr)) (pv 6) pe_str (nomark _)) (pss_one (ps_set (i := 3) sc_law_part.nd rfl (Or.inl rfl) (pe_op op_addA (pv 3) (pe_op op_mulA (pe_ix ix_seq (pv 5) pe_int (fun _ _ => rfl)) (pe_callTy c_int (by rfl) T.int bt_int (pa_cons (pe_cmpR (op_neA (hu64 hr)) (pe_dget (hu_of hr) (pv 1) pe_str (fun _ _ => rfl)) (pe_ix ix_seq (pv 5) pe_int (fun _ _ => rfl)) (nomark _)) pa_nil)))))) (pss_one (ps_set (i := 3) sc_law_part.nd rfl (Or.inl rfl) (pe_op op_addA (pv 3) (pe_op op_mulA (pe_ix ix_seq (pv 5) pe_int (fun _ _ => rfl)) (pe_callTy c_int (by rfl) T.int bt_int (pa_cons (pe_cmpR (op_neA (hu64 hr)) (pe_ix ix_seq (pe_dget (hu_of hr) (pv 1) pe_str (fun _ _ => rfl)) (pe_ix ix_seq (pv 5) pe_int (fun _ _ => rfl)) (fun _ _ => rfl)) (pe_cmpR (op_eqA (hu64 hr)) (pv 6) pe_str (nomark _)) (nomark _)) pa_nil))))))))))))))))))))))))))))
      (pss_one (ps_ret pe_bl)))), ?_⟩
  show (_ : L2.St → Hp → Prop) [some x0, some x1, some x2, none, none, none, none] H
  try dsimp only [cx_K, cx_K']
  obtain ⟨l, d, fl, vs, os, sg, st, W, rfl, rfl, rfl, hl, ha, nlf, hW, hok, hlen, hs, hw, hWb, q⟩ := h
  have hvl := ha.length
  have nld : l ≠ d := fun e => by
    have := hW.1
    rw [← e, hl] at this
    cases this
  have ndf := hW.ne
  walk_at "go"
  refine r_lenL (.of hl) ?_
  refine r_kRng1 (by omega) ?_
  refine f_range (fun i σ' H' => ∃ (a : Nat) (st' : TS) (x4 x5 x6 : Option V), σ' = [some (V.ref l), some (V.ref d), some (V.str sg), some (V.int a), x4, x5, x6] ∧ Fr [d, fl] H H' ∧ WdAt H' d fl st' ∧ trun os sg (os.length - a) a st' = trunO os sg st ∧ i ≤ a ∧ TSok st' (W + 8 * i)) ?_ ?_ ?_
  · exact ⟨0, st, none, none, none, rfl, Fr.refl _ _, hW, rfl, Nat.le_refl _, hw⟩
  · rintro i σ' H1 hi ⟨a, st', x4, x5, x6, rfl, f1, hW1, hrun, hia, hw1⟩
    have hl1 := f1.get hl (show l ∉ [d, fl] by simp [nld, nlf])
    have ha1 := ha.fr f1
    walk_at "go"
    refine r_lenL (.of hl1) ?_
    walk_at "go"
    refine r_if (fun c => ?_) (fun c => ?_)
    · walk_at "go"
      rw [trun_end (by omega)] at hrun
      have q2 := q H1 f1 (by rw [← hrun]; exact hW1)
      rw [← hrun] at q2
      exact q2
    · have hlt : a < vs.length := by omega
      obtain ⟨o, ho, t, hvt, ht⟩ := ha1.get (List.getElem?_eq_getElem hlt)
      have hk := hok a o ho
      have hfu : os.length - a = (os.length - a - 1) + 1 := by omega
      have hwr := hw1.wr
      have hkp := hw1.kp
      have hs1 := hs.1
      walk_at "go"
      refine r_ixL (.of hl1) (atI_nat (List.getElem?_eq_getElem hlt)) ?_
      rw [hvt]
      walk_at "go"
      refine r_ixT (.of ht) o.at0 ?_
      walk_at "go"
      rename_i pn H2 n2 f2 h2
      have hW2 : WdAt H2 d fl st' := hW1.fr f2 List.not_mem_nil List.not_mem_nil
      have fr2 : Fr [d, fl] H H2 := f2.step0 f1
      have ht2 := f2.tup ht
      refine r_inS ["next", "lose"] (.inl (.of h2)) ?_
      walk_at "go"
      refine r_if (fun e => ?_) (fun e => ?_)
      · simp only [List.mem_cons, List.not_mem_nil, or_false] at e
        walk_at "go"
        rw [hfu, trun, ho] at hrun
        rcases e with e | e
        · obtain rfl := Td.isNext e
          have r1 : (st', true) = trunO os sg st := hrun
          have q2 := q H2 fr2 (by rw [← r1]; exact hW2)
          rw [← r1] at q2
          exact q_of q2 (decide_eq_true rfl).symm
        · obtain rfl := Td.isLose e
          have r1 : (st', false) = trunO os sg st := hrun
          have q2 := q H2 fr2 (by rw [← r1]; exact hW2)
          rw [← r1] at q2
          exact q_of q2 (decide_eq_false (show ¬ ("lose" : Str) = "next" by decide +kernel)).symm
      have e1 : ¬ o.word = "next" := fun z => e (by rw [z]; exact List.mem_cons_self ..)
      have e2 : ¬ o.word = "lose" := fun z => e (by rw [z]; exact List.mem_cons_of_mem _ (List.mem_cons_self ..))
      rw [hfu, trun_step ho e1 e2] at hrun
      have hw2 := hw1.eff hk hs
      -- what each way must leave
      have done : ∀ (n : Int) (x4 x5 x6 : Option V) (H9 : Hp), n = ((a + 1 + (skT st' sg o).toNat : Nat) : Int) → Fr [d, fl] H H9 → WdAt H9 d fl (eff st' sg o) →
          ∃ (a : Nat) (st' : TS) (y4 y5 y6 : Option V), [some (V.ref l), some (V.ref d), some (V.str sg), some (V.int n), x4, x5, x6] = [some (V.ref l), some (V.ref d), some (V.str sg), some (V.int a), y4, y5, y6] ∧ Fr [d, fl] H H9 ∧ WdAt H9 d fl st' ∧ trun os sg (os.length - a) a st' = trunO os sg st ∧ i + 1 ≤ a ∧ TSok st' (W + 8 * (i + 1)) := by
        intro n y4 y5 y6 H9 en f9 hW9
        refine ⟨a + 1 + (skT st' sg o).toNat, eff st' sg o, y4, y5, y6, by rw [en], f9, hW9, ?_, by omega, ?_⟩
        · rw [← hrun]
          exact trun_fuel _ _ _ _ (by omega) (by omega)
        · rw [show W + 8 * (i + 1) = W + 8 * i + 8 by omega]
          exact hw2
      have nd1 : fl ∉ [d] := by simpa using ndf.symm
      have mpd : ∀ {H' H'' : Hp}, Fr [d, fl] H H' → Fr [d] H' H'' → Fr [d, fl] H H'' := fun f g => g.stepL f (List.mem_cons_self ..)
      clear hrun
      cases o with
      | next => exact absurd rfl e1
      | lose => exact absurd rfl e2
      | echo =>
        dsimp only [Td.word]
        walk_at "tg"
        refine r_kDGetS (.of hW2.1) wd_w ?_
        walk_at "go"
        refine r_addS (by omega) ?_
        walk_at "go"
        refine r_kDPutS hW2.1 (Nat.le_of_ble_eq_true rfl) fun H3 f3 h3 => ?_
        rw [wp_w] at h3
        walk_at "go"
        exact done _ _ _ _ _ rfl (mpd fr2 f3) ⟨h3, f3.get hW2.2 nd1⟩
      | keep =>
        dsimp only [Td.word]
        walk_at "tg"
        refine r_kDPutS hW2.1 (Nat.le_of_ble_eq_true rfl) fun H3 f3 h3 => ?_
        rw [wp_k] at h3
        walk_at "go"
        exact done _ _ _ _ _ rfl (mpd fr2 f3) ⟨h3, f3.get hW2.2 nd1⟩
      | pay =>
        dsimp only [Td.word]
        walk_at "tg"
        refine r_kDGetS (.of hW2.1) wd_w ?_
        walk_at "go"
        refine r_kDGetS (.of hW2.1) wd_k ?_
        walk_at "go"
        refine r_addS (by omega) ?_
        walk_at "go"
        refine r_kDPutS hW2.1 (Nat.le_of_ble_eq_true rfl) fun H3 f3 h3 => ?_
        rw [wp_w] at h3
        walk_at "go"
        refine r_kDPutS h3 (Nat.le_of_ble_eq_true rfl) fun H4 f4 h4 => ?_
        rw [wp_k] at h4
        walk_at "go"
        exact done _ _ _ _ _ rfl (mpd (mpd fr2 f3) f4) ⟨h4, f4.get (f3.get hW2.2 nd1) nd1⟩
      | write z =>
        dsimp only [Td.word]
        have hz : z.length ≤ 8 := hk.1
        walk_at "tg"
        refine r_kDGetS (.of hW2.1) wd_w ?_
        walk_at "tg"
        refine r_addS (by omega) ?_
        walk_at "go"
        refine r_kDPutS hW2.1 (Nat.le_of_ble_eq_true rfl) fun H3 f3 h3 => ?_
        rw [wp_w] at h3
        walk_at "go"
        exact done _ _ _ _ _ rfl (mpd fr2 f3) ⟨h3, f3.get hW2.2 nd1⟩
      | raise f =>
        dsimp only [Td.word]
        walk_at "tg"
        rename_i p3 H3 n3 f3 h3
        refine r_inS ["raise", "lower"] (.inl (.of h3)) ?_
        walk_at "go"
        refine r_dt (by decide +kernel) ?_
        walk_at "go"
        have hW3 : WdAt H3 d fl st' := hW2.fr f3 List.not_mem_nil List.not_mem_nil
        rw [decide_eq_true (rfl : ("raise" : Str) = "raise")]
        refine r_kDGetS (.of hW3.1) wd_f ?_
        walk_at "tg"
        refine r_setL hW3.2 (ix_flag hw1.fl hk) fun H4 f4 h4 => ?_
        walk_at "go"
        refine done _ _ _ _ _ rfl (f4.stepL (f3.step0 fr2) (by simp)) ⟨f4.get hW3.1 (by simpa using ndf), ?_⟩
        rw [h4, ← List.map_set]
        rfl
      | lower f =>
        dsimp only [Td.word]
        walk_at "tg"
        rename_i p3 H3 n3 f3 h3
        refine r_inS ["raise", "lower"] (.inl (.of h3)) ?_
        walk_at "go"
        refine r_dt (by decide +kernel) ?_
        walk_at "go"
        have hW3 : WdAt H3 d fl st' := hW2.fr f3 List.not_mem_nil List.not_mem_nil
        rw [decide_eq_false (show ¬ ("lower" : Str) = "raise" by decide +kernel)]
        refine r_kDGetS (.of hW3.1) wd_f ?_
        walk_at "tg"
        refine r_setL hW3.2 (ix_flag hw1.fl hk) fun H4 f4 h4 => ?_
        walk_at "go"
        refine done _ _ _ _ _ rfl (f4.stepL (f3.step0 fr2) (by simp)) ⟨f4.get hW3.1 (by simpa using ndf), ?_⟩
        rw [h4, ← List.map_set]
        rfl
      | skip k =>
        dsimp only [Td.word]
        have hk' : Skp k _ := hk
        walk_at "tg"
        rename_i p3 H3 n3 f3 h3
        refine r_inS ["raise", "lower"] (.inl (.of h3)) ?_
        walk_at "go"
        refine r_df (by decide +kernel) ?_
        walk_at "tg"
        exact done _ _ _ _ _ (by simp only [skT]; have := hk'.1; omega) (f3.step0 fr2) (hW2.fr f3 List.not_mem_nil List.not_mem_nil)
      | sign c k =>
        dsimp only [Td.word]
        have hk' : Skp k _ := hk
        walk_at "tg"
        rename_i p3 H3 n3 f3 h3
        refine r_inS ["raise", "lower"] (.inl (.of h3)) ?_
        walk_at "go"
        refine r_df (by decide +kernel) ?_
        walk_at "tg"
        refine done _ _ _ _ _ ?_ (f3.step0 fr2) (hW2.fr f3 List.not_mem_nil List.not_mem_nil)
        simp only [skT]
        have := hk'.1
        by_cases ec : sg1 c = sg
        · rw [if_pos ec, ec]; simp
        · rw [if_neg ec, decide_eq_false (fun z : sg = sg1 c => ec z.symm)]; simp; omega
      | kept c k =>
        dsimp only [Td.word]
        have hk' : Skp k _ := hk
        walk_at "tg"
        rename_i p3 H3 n3 f3 h3
        refine r_inS ["raise", "lower"] (.inl (.of h3)) ?_
        walk_at "go"
        refine r_df (by decide +kernel) ?_
        walk_at "tg"
        have hW3 : WdAt H3 d fl st' := hW2.fr f3 List.not_mem_nil List.not_mem_nil
        refine r_kDGetS (.of hW3.1) wd_k ?_
        walk_at "tg"
        refine done _ _ _ _ _ ?_ (f3.step0 fr2) hW3
        simp only [skT]
        have := hk'.1
        by_cases ec : sg1 c = st'.kp
        · rw [if_pos ec, ec]; simp
        · rw [if_neg ec, decide_eq_false (fun z : st'.kp = sg1 c => ec z.symm)]; simp; omega
      | up f k =>
        dsimp only [Td.word]
        obtain ⟨hf, hk'⟩ : Rg4 f ∧ Skp k _ := hk
        walk_at "tg"
        rename_i p3 H3 n3 f3 h3
        refine r_inS ["raise", "lower"] (.inl (.of h3)) ?_
        walk_at "go"
        refine r_df (by decide +kernel) ?_
        walk_at "tg"
        have hW3 : WdAt H3 d fl st' := hW2.fr f3 List.not_mem_nil List.not_mem_nil
        refine r_kDGetS (.of hW3.1) wd_f ?_
        walk_at "tg"
        refine r_ixL (.of hW3.2) (at_flag hw1.fl hf) ?_
        walk_at "go"
        rw [decide_eq_true (rfl : ("up" : Str) = "up")]
        refine r_neB ?_
        walk_at "go"
        refine done _ _ _ _ _ ?_ (f3.step0 fr2) hW3
        simp only [skT]
        have := hk'.1
        cases st'.fl.getD f.toNat false <;> simp <;> omega
      | down f k =>
        dsimp only [Td.word]
        obtain ⟨hf, hk'⟩ : Rg4 f ∧ Skp k _ := hk
        walk_at "tg"
        rename_i p3 H3 n3 f3 h3
        refine r_inS ["raise", "lower"] (.inl (.of h3)) ?_
        walk_at "go"
        refine r_df (by decide +kernel) ?_
        walk_at "tg"
        have hW3 : WdAt H3 d fl st' := hW2.fr f3 List.not_mem_nil List.not_mem_nil
        refine r_kDGetS (.of hW3.1) wd_f ?_
        walk_at "tg"
        refine r_ixL (.of hW3.2) (at_flag hw1.fl hf) ?_
        walk_at "go"
        rw [decide_eq_false (show ¬ ("down" : Str) = "up" by decide +kernel)]
        refine r_neB ?_
        walk_at "go"
        refine done _ _ _ _ _ ?_ (f3.step0 fr2) hW3
        simp only [skT]
        have := hk'.1
        cases st'.fl.getD f.toNat false <;> simp <;> omega
  · rintro σ' H1 ⟨a, st', x4, x5, x6, rfl, f1, hW1, hrun, hia, hw1⟩
    walk_at "go"
    rw [trun_end (by omega)] at hrun
    have q2 := q H1 f1 (by rw [← hrun]; exact hW1)
    rw [← hrun] at q2
    exact q2
theorem ok_law_spelt {P : Program} {w : World} {K : PySem.W.Frag} {mg : Str → Option Value} {base : Heap} (T : Tx K w mg) (c_law_part : Cal P w K mg base CX0 1 "_law_part" ["orders", "world", "sign"] spPart) : Cal P w K mg base CX0 2 "_law_spelt" ["recipe", "text"] spSpelt := by
  refine cal_mk T.d_law_spelt sc_law_spelt (fun _ _ _ _ h => sp2_len h) (fun _ _ _ _ _ _ us hl => match us, hl with | [_, _], _ => rfl) fun f cdv A outer s H vs Q E hr h => ?_
  obtain ⟨x0, x1, rfl, h⟩ := h
  refine ⟨_, PSs.nox (pss_cons (ps_asg (pv 0) (pg_tup rfl (pgs_cons (pg_name (i := 2) sc_law_spelt.nd rfl (Or.inl rfl)) (pgs_cons (pg_name (i := 3) sc_law_spelt.nd rfl (Or.inl rfl)) (pgs_cons (pg_name (i := 4) sc_law_spelt.nd rfl (Or.inl rfl)) pgs_nil)))))
      (pss_cons (ps_set (i := 5) sc_law_spelt.nd rfl (Or.inl rfl) (pe_disp (pps_cons pe_str (pe_lstG (pa_cons pe_bl (pa_cons pe_bl (pa_cons pe_bl (pa_cons pe_bl pa_nil))))) (pps_cons pe_str pe_str (pps_cons pe_str pe_str pps_nil))) (by rfl) (by rfl) (fun z => by cases z) (by decide)))
      (pss_cons (ps_for PassesOwn.never rfl (pi_any (pv 1)) (pg_name (i := 6) sc_law_spelt.nd rfl (Or.inl rfl))
      (pss_one (ps_if (PW.pt (pw_or (pt_cmpG op_niA (pv 6) (pv 2) rfl) (pw_or1 (pt_not (pt_truG (pe_callC c_law_part (hr.mono (by decide)) (by rfl) pass0 (pa_cons (pv 3) (pa_cons (pv 5) (pa_cons (pv 6) pa_nil))))))))) (pss_one (ps_ret pe_non)) pss_nil)))
      (pss_one (ps_ret (pe_ifExp (pt_truG (pe_callC c_law_part (hr.mono (by decide)) (by rfl) pass0 (pa_cons (pv 4) (pa_cons (pv 5) (pa_cons pe_str pa_nil))))) (pe_dget (hu_of hr) (pv 5) pe_str (fun _ _ => rfl)) pe_non)))))), ?_⟩
  show (_ : L2.St → Hp → Prop) [some x0, some x1, none, none, none, none, none] H
  try dsimp only [cx_K, cx_K']
  obtain ⟨r, bl, fl0, bv, fv, ls, z, body, fin, rfl, rfl, hr, hbl, hfl0, hbv, hfv, hls, okb, okf, hlb, hlf, hz, q⟩ := h
  walk_at "go"
  refine r_gtup hr rfl ?_
  walk_at "go"
  refine r_disp fun d H1 n1 f1 h1 => ?_
  walk_at "go"
  rename_i fl H2 n2 f2 h2
  refine r_kDisp [(.inr "flags", .ref fl), (.inr "kept", .str ""), (.inr "written", .str "")] [(.inr "flags", .ref fl), (.inr "kept", .str ""), (.inr "written", .str "")] (f2.get h1 List.not_mem_nil) rfl (Nat.le_of_ble_eq_true rfl) rfl fun H3 f3 h3 => ?_
  walk_at "go"
  have ndf : d ≠ fl := fun e => by rw [← e, h1] at n2; cases n2
  have hW3 : WdAt H3 d fl st0 := ⟨h3, f3.get h2 (by simpa using ndf.symm)⟩
  have nfl0 : H fl = none := f1.dom n2
  have fr3 : Fr [d, fl] H H3 := f3.stepL ((f2.step0 f1).any) (List.mem_cons_self ..)
  have no : ∀ {a : Addr} {o : HO}, H a = some o → a ∉ [d, fl] := fun h z => by
    simp only [List.mem_cons, List.not_mem_nil, or_false] at z
    rcases z with rfl | rfl
    · rw [h] at n1; cases n1
    · rw [h] at nfl0; cases nfl0
  have nn : ∀ {a : Addr} {o : HO}, H a = some o → a ≠ d ∧ a ≠ fl := fun h => by have := no h; simpa using this
  refine r_itS ?_
  have hzl : z.cps.size = z.cps.toList.length := by simp
  have hzl2 : z.length = z.cps.size := rfl
  refine f_str (fun i σ' H' => ∃ (x6 : Option V) (st : TS), σ' = [some (V.ref r), some (V.str z), some (V.str ls), some (V.ref bl), some (V.ref fl0), some (V.ref d), x6] ∧ Fr [d, fl] H H' ∧ WdAt H' d fl st ∧ spellC ls body (z.cps.toList.drop i) st = spellC ls body z.cps.toList st0 ∧ TSok st (8 * 400 * i)) ?_ ?_ ?_
  · exact ⟨none, st0, rfl, fr3, hW3, rfl, ⟨rfl, by decide, by decide, by decide +kernel, by decide +kernel⟩⟩
  · rintro i c σ' H5 hc ⟨x6, st, rfl, f5, hW5, hsp, hw⟩
    have hi : i < z.cps.toList.length := by
      have := (Array.getElem?_eq_some_iff.mp hc).1
      omega
    have hci : z.cps.toList[i] = c := by
      have := (Array.getElem?_eq_some_iff.mp hc).2
      simpa using this
    rw [List.drop_eq_getElem_cons hi, hci] at hsp
    have hbl5 := f5.get hbl (no hbl)
    walk_at "go"
    refine r_niC ?_
    walk_at "go"
    refine r_ifn (fun nin => ?_) (fun hin => ?_)
    · walk_at "go"
      rw [spell_no (fun z => nin z.1)] at hsp
      have e : spellO ls body fin z.cps.toList = none := by unfold spellO; rw [← hsp]
      rw [e] at q
      exact q _ ⟨fun h n => f5.get h (no h), f5.tup, f5.dom⟩
    · walk_at "go"
      refine u_part (W := 8 * 400 * i) hbl5 (hbv.fr f5) (nn hbl).2 hW5 okb (by omega) ⟨Nat.le_refl 1, strOk_mem hls hin⟩ hw (by omega) fun H6 f6 hW6 => ?_
      walk_at "go"
      cases hb : (trunO body (sg1 c) st).2 with
      | true =>
        have hb' : (trunO body (⟨#[c]⟩ : Str) st).2 = true := hb
        rw [hb']
        refine r_ff ?_
        walk_at "go"
        refine ⟨_, (trunO body (sg1 c) st).1, rfl, f6.stepS f5, hW6, ?_, ?_⟩
        · rw [← hsp, spell_cons hin hb]
        · have := trun_ok okb (show SgOk (sg1 c) from ⟨Nat.le_refl 1, strOk_mem hls hin⟩) body.length 0 st _ hw
          exact ⟨this.fl, this.kp, by have := this.wr; show (trun body (sg1 c) body.length 0 st).1.wr.length ≤ _; omega, this.so⟩
      | false =>
        have hb' : (trunO body (⟨#[c]⟩ : Str) st).2 = false := hb
        rw [hb']
        refine r_tt ?_
        walk_at "go"
        rw [spell_no (fun z => by rw [hb] at z; cases z.2)] at hsp
        have e : spellO ls body fin z.cps.toList = none := by unfold spellO; rw [← hsp]
        rw [e] at q
        have fr6 : Fr [d, fl] H H6 := f6.stepS f5
        exact q _ ⟨fun h n => fr6.get h (no h), fr6.tup, fr6.dom⟩
  · rintro σ' H5 ⟨x6, st, rfl, f5, hW5, hsp, hw⟩
    rw [List.drop_of_length_le (by omega)] at hsp
    have hsp2 : spellC ls body z.cps.toList st0 = some st := hsp.symm
    have hfl5 := f5.get hfl0 (no hfl0)
    walk_at "go"
    refine u_part (W := 8 * 400 * z.cps.size) hfl5 (hfv.fr f5) (nn hfl0).2 hW5 okf (by omega) ⟨by decide, by decide +kernel⟩ hw (by omega) fun H6 f6 hW6 => ?_
    walk_at "go"
    have fr6 : Fr [d, fl] H H6 := f6.stepS f5
    have fr6' : Fr [] H H6 := ⟨fun h n => fr6.get h (no h), fr6.tup, fr6.dom⟩
    cases hb : (trunO fin "" st).2 with
    | true =>
      walk_at "go"
      refine r_kDGetS (.of hW6.1) wd_w ?_
      have e : spellO ls body fin z.cps.toList = some (trunO fin "" st).1.wr := by unfold spellO; rw [hsp2]; exact if_pos hb
      rw [e] at q
      exact q _ fr6'
    | false =>
      walk_at "go"
      have e : spellO ls body fin z.cps.toList = none := by unfold spellO; rw [hsp2]; exact if_neg (by rw [hb]; decide)
      rw [e] at q
      exact q _ fr6'
theorem ok_law_texts {P : Program} {w : World} {K : PySem.W.Frag} {mg : Str → Option Value} {base : Heap} (T : Tx K w mg) (c_law_take : Cal P w K mg base CX0 1 "_law_take" ["deck", "many"] spTake) : Cal P w K mg base CX0 2 "_law_texts" ["deck", "letters"] spTexts := by
  refine cal_mk T.d_law_texts sc_law_texts (fun _ _ _ _ h => sp2_len h) (fun _ _ _ _ _ _ us hl => match us, hl with | [_, _], _ => rfl) fun f cdv A outer s H vs Q E hr h => ?_
  obtain ⟨x0, x1, rfl, h⟩ := h
  refine ⟨_, PSs.nox (pss_cons (ps_set (i := 2) sc_law_texts.nd rfl (Or.inl rfl) (pe_lstG (pa_cons pe_str pa_nil)))
      (pss_cons (ps_set (i := 3) sc_law_texts.nd rfl (Or.inl rfl) (pe_lstG (pa_cons pe_str pa_nil)))
      (pss_cons (ps_for PassesOwn.never rfl (pi_range1 (by rfl) T.range (pa_cons pe_int pa_nil)) (pg_name (i := 4) sc_law_texts.nd rfl (Or.inl rfl))
      (pss_cons (ps_set (i := 5) sc_law_texts.nd rfl (Or.inl rfl) (pe_lstG pa_nil))
      (pss_cons (ps_for PassesOwn.never rfl (pi_any (pv 3)) (pg_name (i := 6) sc_law_texts.nd rfl (Or.inr rfl))
      (pss_one (ps_expr (pe_bmG PySem.F.plainAttrs_list PySem.F.slot_list_extend PySem.F.type_list_extend mt_extend (pv 5) (pa_cons (pe_lc (own := [("letter", 10)]) (g := gName 10) (tt := tYes) rfl sc_law_texts.nd (pi_any (pv 1)) (blkOk_by (own := [("letter", 10)]) (N := ["deck", "letters", "texts", "layer", "size", "longer", "text", "signs", "turn", "at", "letter"]) (sc := defScope s_law_texts) (by decide +kernel)) (fun _ _ _ _ _ => pg_name (i := 10) sc_law_texts.nd rfl (Or.inl rfl)) (fun _ _ _ _ _ => pts_nil) (fun _ _ _ _ _ => (pe_op (op_addAQ (K := K)) (pv 6) (pv 10)))) pa_nil)))))
      (pss_cons (ps_set (i := 3) sc_law_texts.nd rfl (Or.inl rfl) (pv 5))
      (pss_one (ps_set (i := 2) sc_law_texts.nd rfl (Or.inl rfl) (pe_op op_addA (pv 2) (pv 3))))))))
      (pss_cons (ps_set (i := 7) sc_law_texts.nd rfl (Or.inl rfl) (pe_op op_addA (pv 1) (pe_op op_mulA pe_str (pe_callTy c_int (by rfl) T.int bt_int (pa_cons (pe_cmpR (op_eqA (hu64 hr)) (pe_callC c_law_take (hr.mono (by decide)) (by rfl) pass0 (pa_cons (pv 0) (pa_cons pe_int pa_nil))) pe_int (nomark _)) pa_nil)))))
      (pss_cons (ps_for PassesOwn.never rfl (pi_range1 (by rfl) T.range (pa_cons pe_int pa_nil)) (pg_name (i := 8) sc_law_texts.nd rfl (Or.inl rfl))
      (pss_cons (ps_set (i := 6) sc_law_texts.nd rfl (Or.inr rfl) pe_str)
      (pss_cons (ps_for PassesOwn.never rfl (pi_range1 (by rfl) T.range (pa_cons (pe_op op_mulA (pe_callC c_law_take (hr.mono (by decide)) (by rfl) pass0 (pa_cons (pv 0) (pa_cons pe_int pa_nil))) (pe_callTy c_int (by rfl) T.int bt_int (pa_cons (pe_cmpR op_gtA (pe_callB c_len (by rfl) T.len bt_len (pa_cons (pv 7) pa_nil)) pe_int (nomark _)) pa_nil))) pa_nil)) (pg_name (i := 9) sc_law_texts.nd rfl (Or.inl rfl))
      (pss_one (ps_set (i := 6) sc_law_texts.nd rfl (Or.inr rfl) (pe_op op_addA (pv 6) (pe_ix ix_seq (pv 7) (pe_callC c_law_take (hr.mono (by decide)) (by rfl) pass0 (pa_cons (pv 0) (pa_cons (pe_callB c_len (by rfl) T.len bt_len (pa_cons (pv 7) pa_nil)) pa_nil))) (fun _ _ => rfl))))))
      (pss_one (ps_expr (pe_bmG PySem.F.plainAttrs_list PySem.F.slot_list_append PySem.F.type_list_append mt_append (pv 2) (pa_cons (pv 6) pa_nil)))))))
      (pss_one (ps_ret (pv 2)))))))), ?_⟩
  show (_ : L2.St → Hp → Prop) [some x0, some x1, none, none, none, none, none, none, none, none, none] H
  try dsimp only [cx_K, cx_K']
  obtain ⟨l, ls, rfl, rfl, hll, hD, q⟩ := h
  have hlc : ls.cps.size = ls.length := rfl
  walk_at "go"
  rename_i ta H1 n1 f1 h1 la H2 n2 f2 h2
  refine r_kRng1 (by decide) ?_
  have D2 : Dk H2 l := by walk_at "dk"
  have p3 : ∀ {s : Nat}, s ≤ 3 → 4 ^ s ≤ 64 := fun h => Nat.pow_le_pow_right (by decide) h
  refine f_range (fun s σ' H' => ∃ (x4 x5 x6 : Option V) (ta la : Addr) (zs ws : List Str), σ' = [some (V.ref l), some (V.str ls), some (V.ref ta), some (V.ref la), x4, x5, x6, none, none, none, none] ∧ s ≤ 3 ∧ H' ta = some (.lst (zs.map V.str)) ∧ zs.length ≤ 1 + 256 * s ∧ (∀ z ∈ zs, z.length ≤ 3) ∧
    H' la = some (.lst (ws.map V.str)) ∧ ws.length ≤ 4 ^ s ∧ (∀ z ∈ ws, z.length ≤ s) ∧ Fr [l] H H' ∧ Dk H' l ∧ H ta = none) ?_ ?_ ?_
  · exact ⟨none, none, none, ta, la, [""], [""], rfl, by decide, f2.get h1 List.not_mem_nil, by decide, by decide +kernel, h2, by decide, by decide +kernel, (f2.step0 f1).any, D2, n1⟩
  · rintro s σ' H3 hs ⟨x4, x5, x6, ta, la, zs, ws, rfl, hs3, g1, g2, g3, g4, g5, g6, f3, D3, n0⟩
    have hs' : s < 3 := by have : Int.toNat 3 = 3 := rfl; omega
    have hp := p3 hs3
    have hp1 : 4 ^ (s + 1) = 4 * 4 ^ s := by rw [Nat.pow_succ, Nat.mul_comm]
    walk_at "go"
    rename_i lo H4 n4 f4 h4
    refine r_itL (.of (f4.get g4 List.not_mem_nil)) ?_
    have nlo : lo ≠ l := D3.ne n4
    refine f_list (xs := ws.map V.str) (fun i σ' H' => ∃ (x6 : Option V) (us : List Str), σ' = [some (V.ref l), some (V.str ls), some (V.ref ta), some (V.ref la), some (V.int (0 + (s : Int))), some (V.ref lo), x6, none, none, none, none] ∧ H' lo = some (.lst (us.map V.str)) ∧ us.length ≤ 4 * i ∧ (∀ z ∈ us, z.length ≤ s + 1) ∧ Fr [lo] H4 H') ?_ ?_ ?_ ?_
    · exact ⟨_, [], rfl, h4, by simp, by simp, Fr.refl _ _⟩
    · rintro i σ' H' ⟨x6, us, rfl, e1, e2, e3, e4⟩
      refine .of (e4.get (f4.get g4 List.not_mem_nil) ?_)
      have : la ≠ lo := ne_of_none g4 n4
      simpa using this
    · rintro i v σ' H5 hv ⟨x6, us, rfl, e1, e2, e3, e4⟩
      have hil : i < ws.length := by have := (List.getElem?_eq_some_iff.mp hv).1; simpa using this
      obtain ⟨w, hw, rfl⟩ : ∃ w, w ∈ ws ∧ V.str w = v := by
        have := List.mem_of_getElem? hv
        obtain ⟨w, h1, h2⟩ := List.mem_map.mp this
        exact ⟨w, h1, h2⟩
      have hwl := g6 w hw
      walk_at "go"
      walk_at "tyL"
      walk_at "go"
      refine r_itS ?_
      refine l_str (fun A j H' => ∃ ys : List Str, H' A = some (.lst (ys.map V.str)) ∧ ys.length = j ∧ (∀ z ∈ ys, z.length ≤ s + 1) ∧ Fr [] H5 H') ?_ ?_ ?_
      · intro A H' n f h
        exact ⟨[], h, rfl, by simp, f⟩
      · rintro A j c H6 hA hc ⟨ys, k1, k2, k3, k4⟩
        have hj := (Array.getElem?_eq_some_iff.mp hc).1
        walk_at "wp"
        walk_at "go"
        refine r_kElt rfl ?_
        walk_at "go"
        refine r_addS (by show w.length + 1 ≤ 16777216; omega) ?_
        refine r_kAcc k1 (by rw [List.length_map]; omega) fun H7 f7 h7 => ?_
        refine ⟨ys ++ [w ++ ⟨#[c]⟩], by rw [h7, List.map_append]; rfl, by rw [List.length_append, k2]; rfl, ?_, f7.stepN k4 hA⟩
        intro z hz
        rcases List.mem_append.mp hz with h | h
        · exact k3 z h
        · rw [List.mem_singleton.mp h, str_app]
          show w.length + 1 ≤ s + 1
          omega
      · rintro A H6 hA ⟨ys, k1, k2, k3, k4⟩
        have e1' := k4.get e1 List.not_mem_nil
        walk_at "go"
        refine r_extend e1' k1 (by rw [List.length_map, List.length_map]; omega) fun H7 f7 h7 => ?_
        walk_at "go"
        refine ⟨_, us ++ ys, rfl, by rw [h7, List.map_append], by rw [List.length_append]; omega, ?_, f7.stepS (k4.step0 e4)⟩
        intro z hz
        rcases List.mem_append.mp hz with h | h
        · exact e3 z h
        · exact k3 z h
    · rintro σ' H5 ⟨x6, us, rfl, e1, e2, e3, e4⟩
      walk_at "go"
      have n3t : ta ≠ lo := ne_of_none g1 n4
      have g1' := e4.get (f4.get g1 List.not_mem_nil) (by simpa using n3t)
      rw [List.length_map] at e2
      refine r_addL g1' e1 (by rw [List.length_map, List.length_map]; omega) fun tb H6 n6 f6 h6 => ?_
      walk_at "go"
      have fr5 : Fr [l] H H5 := (e4.stepN (f4.step0 f3) (f3.dom n4))
      refine ⟨_, _, _, tb, lo, zs ++ us, us, rfl, by omega, by rw [h6, List.map_append], by rw [List.length_append]; omega, ?_, f6.get e1 List.not_mem_nil, by omega, e3, f6.step0 fr5, ((D3.fr f4 List.not_mem_nil).fr e4 (by simpa using nlo.symm)).fr f6 List.not_mem_nil, fr5.dom n6⟩
      intro z hz
      rcases List.mem_append.mp hz with h | h
      · exact g3 z h
      · exact Nat.le_trans (e3 z h) (by omega)
  · rintro σ' H3 ⟨x4, x5, x6, ta, la, zs, ws, rfl, hs3, g1, g2, g3, g4, g5, g6, f3, D3, n0⟩
    have hz3 : zs.length ≤ 769 := by have : Int.toNat 3 = 3 := rfl; omega
    have ntl : ta ≠ l := hD.ne n0
    walk_at "go"
    refine c_take (by walk_at "dk") (by decide) fun r H4 ha hb2 f4 D4 => ?_
    walk_at "go"
    have hm : (if decide (r = 0) = true then (1 : Int) else 0) = 0 ∨ (if decide (r = 0) = true then (1 : Int) else 0) = 1 := by split <;> simp
    generalize (if decide (r = 0) = true then (1 : Int) else 0) = m at hm ⊢
    have hmul : MulOk "q" m ∧ (Txt.mul "q" m).length ≤ 1 := by
      rcases hm with rfl | rfl
      · exact ⟨⟨by decide, fun h => absurd (by decide) h, fun h => absurd (by decide) h⟩, by decide +kernel⟩
      · exact ⟨⟨by decide, fun _ h => absurd h (by decide +kernel), fun _ h => absurd h (by decide +kernel)⟩, by decide +kernel⟩
    refine r_mulS hmul.1 ?_
    refine r_addS (by omega) ?_
    have hsg : (ls ++ Txt.mul "q" m).length ≤ 5 := by rw [str_app]; omega
    generalize ls ++ Txt.mul "q" m = sg at hsg ⊢
    have f4' : Fr [l] H H4 := f4.stepS f3
    have hsz : sg.length = sg.cps.toList.length := rfl
    walk_at "go"
    refine r_kRng1 (by decide) ?_
    refine f_range (fun t σ' H' => ∃ (x6 x8 x9 : Option V) (zs : List Str), σ' = [some (V.ref l), some (V.str ls), some (V.ref ta), some (V.ref la), x4, x5, x6, some (V.str sg), x8, x9, none] ∧ H' ta = some (.lst (zs.map V.str)) ∧ zs.length ≤ 769 + t ∧ (∀ z ∈ zs, z.length ≤ 41) ∧ Fr [l] H H' ∧ Dk H' l) ?_ ?_ ?_
    · exact ⟨_, _, _, zs, rfl, f4.get g1 (by simpa using ntl), by omega, fun z hz => Nat.le_trans (g3 z hz) (by decide), f4', D4⟩
    · rintro t σ' H5 ht ⟨x6, x8, x9, zs2, rfl, k1, k2, k3, k4, D5⟩
      have ht12 : t < 12 := by have : Int.toNat 12 = 12 := rfl; omega
      walk_at "go"
      refine c_take D5 (by decide) fun r1 H6 hr0 hr1 f6 D6 => ?_
      walk_at "go"
      refine r_lenS (by omega) ?_
      walk_at "go"
      have hm2 : (if decide ((0 : Int) < (sg.length : Int)) = true then (1 : Int) else 0) = 0 ∨ ((if decide ((0 : Int) < (sg.length : Int)) = true then (1 : Int) else 0) = 1 ∧ 0 < sg.length) := by
        by_cases h : (0 : Int) < (sg.length : Int)
        · exact .inr ⟨by rw [decide_eq_true h]; rfl, by omega⟩
        · exact .inl (by rw [decide_eq_false h]; rfl)
      generalize (if decide ((0 : Int) < (sg.length : Int)) = true then (1 : Int) else 0) = m2 at hm2 ⊢
      have hn : 0 ≤ r1 * m2 ∧ r1 * m2 ≤ 40 ∧ (0 < r1 * m2 → 0 < sg.length) := by
        rcases hm2 with rfl | ⟨rfl, h⟩
        · rw [Int.mul_zero]
          exact ⟨by omega, by omega, fun h => absurd h (by omega)⟩
        · rw [Int.mul_one]
          exact ⟨by omega, by omega, fun _ => h⟩
      generalize r1 * m2 = n at hn ⊢
      refine r_kRng1 (by omega) ?_
      have k1' := f6.get k1 (show ta ∉ [l] by simpa using ntl)
      refine f_range (fun j σ' H' => ∃ (x9 : Option V) (tx : Str), σ' = [some (V.ref l), some (V.str ls), some (V.ref ta), some (V.ref la), x4, x5, some (V.str tx), some (V.str sg), some (V.int (0 + (t : Int))), x9, none] ∧ tx.length ≤ j ∧ Fr [l] H6 H' ∧ Dk H' l) ?_ ?_ ?_
      · exact ⟨_, "", rfl, by decide, Fr.refl _ _, D6⟩
      · rintro j σ' H7 hj ⟨y9, tx, rfl, htx, f7, D7⟩
        have hpos := hn.2.2 (by omega)
        walk_at "go"
        refine r_lenS (by omega) ?_
        walk_at "go"
        refine c_take D7 (by omega) fun r2 H8 h20 h21 f8 D8 => ?_
        obtain ⟨c, hc, _⟩ := at_lit (xs := sg.cps.toList) h20 (by omega)
        refine r_ixS (by omega) hc ?_
        refine r_addS (by show tx.length + 1 ≤ 16777216; omega) ?_
        walk_at "go"
        exact ⟨_, _, rfl, by rw [str_app]; show tx.length + 1 ≤ j + 1; omega, f8.stepS f7, D8⟩
      · rintro σ' H7 ⟨y9, tx, rfl, htx, f7, D7⟩
        have k1'' := f7.get k1' (show ta ∉ [l] by simpa using ntl)
        walk_at "go"
        walk_at "tyL"
        walk_at "go"
        refine r_append k1'' (by rw [List.length_map]; omega) fun H8 f8 h8 => ?_
        walk_at "go"
        refine ⟨_, _, _, zs2 ++ [tx], rfl, by rw [h8, List.map_append]; rfl, by rw [List.length_append, List.length_singleton]; omega, ?_, f8.stepN (f7.stepS (f6.stepS k4)) n0, D7.fr f8 (by simpa using ntl.symm)⟩
        intro z hz
        rcases List.mem_append.mp hz with h | h
        · exact k3 z h
        · rw [List.mem_singleton.mp h]; omega
    · rintro σ' H5 ⟨x6, x8, x9, zs2, rfl, k1, k2, k3, k4, D5⟩
      walk_at "go"
      exact q ta H5 ⟨zs2, k1, by have : Int.toNat 12 = 12 := rfl; omega, fun z hz => Nat.le_trans (k3 z hz) (by decide)⟩ n0 k4 D5
theorem ok_law {P : Program} {w : World} {K : PySem.W.Frag} {mg : Str → Option Value} {base : Heap} (T : Tx K w mg) (c_law_deck : Cal P w K mg base CX0 1 "_law_deck" ["script", "cells", "each"] (spDeck K)) (c_law_text_recipe : Cal P w K mg base CX0 3 "_law_text_recipe" ["deck"] spTrec) (m_TextRecipe : Mak P w K mg base CX0 4 "TextRecipe" ["self", "letters", "body", "finish"] (spTxInit K)) (c_law_texts : Cal P w K mg base CX0 2 "_law_texts" ["deck", "letters"] spTexts) (c_law_plain : ∀ n, Cal P w K mg base CX0 (n + 1) "_law_plain" ["value"] (spPl K n)) (c_text_image : Cal P w K mg base CX0 3 "text_image" ["recipe", "text"] (spTImg K)) (c_law_spelt : Cal P w K mg base CX0 2 "_law_spelt" ["recipe", "text"] spSpelt) : Cal P w K mg base CX0 6 "law" ["script"] (spLaw K) := by
  refine cal_mk T.d_law sc_law (fun _ _ _ _ h => sp1_len h) (fun _ _ _ _ _ _ us hl => match us, hl with | [_], _ => rfl) fun f cdv A outer s H vs Q E hr h => ?_
  obtain ⟨x0, rfl, h⟩ := h
  refine ⟨_, PSs.nox (pss_cons (ps_set (i := 1) sc_law.nd rfl (Or.inl rfl) (pe_callC c_law_deck (hr.mono (by decide)) (by rfl) pass0 (pa_cons (pv 0) (pa_cons pe_int (pa_cons pe_int pa_nil)))))
      (pss_cons (ps_set (i := 2) sc_law.nd rfl (Or.inl rfl) (pe_callC c_law_text_recipe (hr.mono (by decide)) (by rfl) pass0 (pa_cons (pv 1) pa_nil)))
      (pss_cons (ps_asg (pv 2) (pg_tup rfl (pgs_cons (pg_name (i := 3) sc_law.nd rfl (Or.inl rfl)) (pgs_cons (pg_name (i := 4) sc_law.nd rfl (Or.inl rfl)) (pgs_cons (pg_name (i := 5) sc_law.nd rfl (Or.inl rfl)) pgs_nil)))))
      (pss_cons (ps_set (i := 6) sc_law.nd rfl (Or.inl rfl) (pe_lstG (pa_cons (pe_callTy c_listOf (by rfl) T.list bt_list (pa_cons (pv 4) pa_nil)) (pa_cons (pe_callTy c_listOf (by rfl) T.list bt_list (pa_cons (pv 5) pa_nil)) pa_nil))))
      (pss_cons (ps_set (i := 7) sc_law.nd rfl (Or.inl rfl) (pe_makeC m_TextRecipe (hr.mono (by decide)) (by rfl) pass0 (pa_cons (pv 3) (pa_cons (pe_ix ix_seq (pv 6) pe_int (fun _ _ => rfl)) (pa_cons (pe_ix ix_seq (pv 6) pe_int (fun _ _ => rfl)) pa_nil)))))
      (pss_cons (ps_set (i := 8) sc_law.nd rfl (Or.inl rfl) (pe_callC c_law_texts (hr.mono (by decide)) (by rfl) pass0 (pa_cons (pv 1) (pa_cons (pv 3) pa_nil))))
      (pss_cons (ps_for PassesOwn.never rfl (pi_range1 (by rfl) T.range (pa_cons pe_int pa_nil)) (pg_name (i := 9) sc_law.nd rfl (Or.inl rfl))
      (pss_cons (ps_if (pt_cmpG (op_neA (hu64 hr)) (pe_callC (c_law_plain 4) (hr.mono (by decide)) (by rfl) pass0 (pa_cons (pe_lstG (pa_cons (pe_fldG (pv 7) rfl) (pa_cons (pe_fldG (pv 7) rfl) (pa_cons (pe_fldG (pv 7) rfl) pa_nil)))) pa_nil)) (pe_callC (c_law_plain 4) (hr.mono (by decide)) (by rfl) pass0 (pa_cons (pe_lstG (pa_cons (pv 3) (pa_cons (pv 4) (pa_cons (pv 5) pa_nil)))) pa_nil)) (nomark _)) (pss_one (ps_ret pe_bl)) pss_nil)
      (pss_cons (ps_for PassesOwn.never rfl (pi_any (pv 8)) (pg_name (i := 10) sc_law.nd rfl (Or.inl rfl))
      (pss_one (ps_if (pt_cmpG (op_neA (hu64 hr)) (pe_callC (c_law_plain 4) (hr.mono (by decide)) (by rfl) pass0 (pa_cons (pe_callC c_text_image (hr.mono (by decide)) (by rfl) pass0 (pa_cons (pv 7) (pa_cons (pv 10) pa_nil))) pa_nil)) (pe_callC (c_law_plain 4) (hr.mono (by decide)) (by rfl) pass0 (pa_cons (pe_callC c_law_spelt (hr.mono (by decide)) (by rfl) pass0 (pa_cons (pv 2) (pa_cons (pv 10) pa_nil))) pa_nil)) (nomark _)) (pss_one (ps_ret pe_bl)) pss_nil)))
      (pss_cons (ps_expr (pe_bmG PySem.F.plainAttrs_list PySem.F.slot_list_append PySem.F.type_list_append mt_append (pe_ix ix_seq (pv 6) pe_int (fun _ _ => rfl)) (pa_cons (pe_tupG (pa_cons pe_str pa_nil)) pa_nil)))
      (pss_one (ps_expr (pe_bmG PySem.F.plainAttrs_list PySem.F.slot_list_append PySem.F.type_list_append mt_append (pe_ix ix_seq (pv 6) pe_int (fun _ _ => rfl)) (pa_cons (pe_tupG (pa_cons pe_str pa_nil)) pa_nil))))))))
      (pss_one (ps_ret pe_bl))))))))), ?_⟩
  show (_ : L2.St → Hp → Prop) [some x0, none, none, none, none, none, none, none, none, none, none] H
  try dsimp only [cx_K, cx_K']
  obtain ⟨sc, ns, rfl, hs, hn, q⟩ := h
  walk_at "go"
  refine u_deck (m := 50) (e := 14) hs hn (by decide) (by decide) fun l H1 f1 n1 D1 => ?_
  walk_at "go"
  refine u_trec D1 fun r bl fl bv fv ls body fin H2 hls hr hbl hfl hbv hfv okb okf hlb hlf nbf n_bl n_fl f2 D2 => ?_
  have l1 := hbv.length
  have l2 := hfv.length
  have hso := ls_so hls
  walk_at "go"
  refine r_gtup hr rfl ?_
  walk_at "go"
  refine r_listOf (.inl (.of hbl)) fun pb H3 n3 f3 h3 => ?_
  walk_at "go"
  refine r_listOf (.inl (.of (f3.get hfl List.not_mem_nil))) fun pf H4 n4 f4 h4 => ?_
  walk_at "go"
  rename_i pp H5 n5 f5 h5
  have h3' : H5 pb = some (.lst bv) := f5.get (f4.get h3 List.not_mem_nil) List.not_mem_nil
  have h4' : H5 pf = some (.lst fv) := f5.get h4 List.not_mem_nil
  have npbf : pb ≠ pf := ne_of_none h3 n4
  have f25 : Fr [] H2 H5 := f5.step0 (f4.step0 f3)
  refine r_ixL (.of h5) (v := .ref pb) (by rfl) ?_
  walk_at "go"
  refine r_ixL (.of h5) (v := .ref pf) (by rfl) ?_
  walk_at "go"
  refine r_kMake fun x dx H6 n6 f6 h6 => ?_
  have f26 : Fr [] H2 H6 := f6.step0 f25
  refine u_txInit h6 (f6.get h3' List.not_mem_nil) (f6.get h4' List.not_mem_nil) (hbv.fr f26) (hfv.fr f26) okb okf (ls_ok hls).1 (by omega) fun b2 f2a H7 f7 nb2 nf2 h7 h7b h7f => ?_
  refine ⟨rfl, ?_⟩
  have D6 : Dk H6 l := D2.fr f26 List.not_mem_nil
  have nxl : x ≠ l := (D2.fr f25 List.not_mem_nil).ne n6
  have D7 : Dk H7 l := D6.fr f7 (by simpa using nxl.symm)
  have npx : pb ≠ x := ne_of_none h3' n6
  have npx2 : pf ≠ x := ne_of_none h4' n6
  have nox : ∀ {a : Addr} {o : HO}, H2 a = some o → a ≠ x := fun h => ne_of_none (f25.get h List.not_mem_nil) n6
  have g27 : ∀ {a : Addr} {o : HO}, H2 a = some o → H7 a = some o := fun h => f7.get (f26.get h List.not_mem_nil) (by simpa using nox h)
  have g_pb7 : H7 pb = some (.lst bv) := f7.get (f6.get h3' List.not_mem_nil) (by simpa using npx)
  have g_pf7 : H7 pf = some (.lst fv) := f7.get (f6.get h4' List.not_mem_nil) (by simpa using npx2)
  have a_b7 : TAts H7 bv body := (hbv.fr f26).fr f7
  have a_f7 : TAts H7 fv fin := (hfv.fr f26).fr f7
  have h5_7 : H7 pp = some (.lst [.ref pb, .ref pf]) := f7.get (f6.get h5 List.not_mem_nil) (by have := ne_of_none h5 n6; simpa using this)
  walk_at "go"
  refine u_texts D7 (ls_ok hls).2 fun tx H8 htx ntx f8 D8 => ?_
  have npl : pb ≠ l := D2.ne n3
  have npfl : pf ≠ l := (D2.fr f3 List.not_mem_nil).ne n4
  have nppl : pp ≠ l := (D2.fr (f4.step0 f3) List.not_mem_nil).ne n5
  have nbl_l : bl ≠ l := D1.ne n_bl
  have nfl_l : fl ≠ l := D1.ne n_fl
  have nb2l : b2 ≠ l := D6.ne nb2
  have nf2l : f2a ≠ l := D6.ne nf2
  have ne1 : ∀ {a : Addr}, a ≠ l → a ∉ [l] := fun h => by simpa using h
  walk_at "go"
  refine r_kRng1 (by decide) ?_
  have nb_pb : bl ≠ pb := ne_of_none hbl n3
  have nb_pf : bl ≠ pf := ne_of_none (f3.get hbl List.not_mem_nil) n4
  have nf_pb : fl ≠ pb := ne_of_none hfl n3
  have nf_pf : fl ≠ pf := ne_of_none (f3.get hfl List.not_mem_nil) n4
  have nr_pb : ∀ {H' : Hp}, Fr [pb, pf] H8 H' → H' r = some (.tup [.str ls, .ref bl, .ref fl]) := fun f => f.tup (f8.tup (f7.tup (f26.tup hr)))
  have nx_p : x ∉ [pb, pf] := by simp [npx.symm, npx2.symm]
  have nb2_p : b2 ∉ [pb, pf] := by
    have h1 : pb ≠ b2 := ne_of_none (f6.get h3' List.not_mem_nil) nb2
    have h2 : pf ≠ b2 := ne_of_none (f6.get h4' List.not_mem_nil) nb2
    simp [h1.symm, h2.symm]
  have nf2_p : f2a ∉ [pb, pf] := by
    have h1 : pb ≠ f2a := ne_of_none (f6.get h3' List.not_mem_nil) nf2
    have h2 : pf ≠ f2a := ne_of_none (f6.get h4' List.not_mem_nil) nf2
    simp [h1.symm, h2.symm]
  have npp_p : pp ∉ [pb, pf] := by
    have h1 : pb ≠ pp := ne_of_none (f4.get h3 List.not_mem_nil) n5
    have h2 : pf ≠ pp := ne_of_none h4 n5
    simp [h1.symm, h2.symm]
  have ntx_p : tx ∉ [pb, pf] := by
    have h1 : pb ≠ tx := ne_of_none g_pb7 ntx
    have h2 : pf ≠ tx := ne_of_none g_pf7 ntx
    simp [h1.symm, h2.symm]
  have nl_p : l ∉ [pb, pf] := by simp [npl.symm, npfl.symm]
  obtain ⟨zs, htx1, htx2, htx3⟩ := htx
  refine f_range (fun i σ' H' => ∃ x9 x10 pv1 pv2, σ' = [some (V.ref sc), some (V.ref l), some (V.ref r), some (V.str ls), some (V.ref bl), some (V.ref fl), some (V.ref pp), some (V.ref x), some (V.ref tx), x9, x10] ∧ Fr [pb, pf] H8 H' ∧ H' pb = some (.lst pv1) ∧ H' pf = some (.lst pv2) ∧ pv1.length ≤ 400 + i ∧ pv2.length ≤ 400 + i) ?_ ?_ ?_
  · exact ⟨_, _, bv, fv, rfl, Fr.refl _ _, f8.get g_pb7 (ne1 npl), f8.get g_pf7 (ne1 npfl), by omega, by omega⟩
  · rintro i σ' H9 hi ⟨x9, x10, pv1, pv2, rfl, f9, p1, p2, p3, p4⟩
    have hi2 : i < 2 := by have : Int.toNat 2 = 2 := rfl; omega
    have bx9 : H9 x = some (.ins (He.ga K "TextRecipe") dx [("letters", .str ls), ("body", .ref b2), ("finish", .ref f2a)]) := f9.get (f8.get h7 (ne1 nxl)) nx_p
    have bb2 : H9 b2 = some (.lst bv) := f9.get (f8.get h7b (ne1 nb2l)) nb2_p
    have bf2 : H9 f2a = some (.lst fv) := f9.get (f8.get h7f (ne1 nf2l)) nf2_p
    have bbl : H9 bl = some (.lst bv) := f9.get (f8.get (g27 hbl) (ne1 nbl_l)) (by simp [nb_pb, nb_pf])
    have bfl : H9 fl = some (.lst fv) := f9.get (f8.get (g27 hfl) (ne1 nfl_l)) (by simp [nf_pb, nf_pf])
    have ab : TAts H9 bv body := (a_b7.fr f8).fr f9
    have af : TAts H9 fv fin := (a_f7.fr f8).fr f9
    walk_at "go"
    refine r_kFld bx9 T.cl_TR T.n_letters rfl ?_
    walk_at "go"
    refine r_kFld bx9 T.cl_TR T.n_body rfl ?_
    walk_at "go"
    refine r_kFld bx9 T.cl_TR T.n_finish rfl ?_
    walk_at "go"
    rename_i t1 H10 n10 f10 h10
    have okR := recD_ok hso okb okf (show body.length ≤ 400 by omega) (show fin.length ≤ 400 by omega)
    have d10 : Dp K H10 (.ref t1) (recD ls body fin) := .lst (.of h10) (.cons (.str _) (.cons (.lst (.of (f10.get bb2 List.not_mem_nil)) (ab.fr f10).dp) (.cons (.lst (.of (f10.get bf2 List.not_mem_nil)) (af.fr f10).dp) .nil)))
    refine u_plain d10 okR fun v11 H11 f11 hv11 => ?_
    walk_at "go"
    rename_i t2 H12 n12 f12 h12
    have f9_12 : Fr [] H9 H12 := f12.step0 (f11.step0 f10)
    have d12 : Dp K H12 (.ref t2) (recD ls body fin) := .lst (.of h12) (.cons (.str _) (.cons (.lst (.of (f9_12.get bbl List.not_mem_nil)) (ab.fr f9_12).dp) (.cons (.lst (.of (f9_12.get bfl List.not_mem_nil)) (af.fr f9_12).dp) .nil)))
    refine u_plain d12 okR fun v13 H13 f13 hv13 => ?_
    refine r_neD (Dp.fr0 f13 _ _ (Dp.fr0 f12 _ _ (Df.dp _ _ hv11))) (Df.dp _ _ hv13) (plD_shaped okR (by decide)) (plD_shaped okR (by decide)) ?_
    rw [plD_refl okR]
    walk_at "go"
    refine r_ff ?_
    walk_at "go"
    have f9_13 : Fr [] H9 H13 := f13.step0 f9_12
    have htx9 : H9 tx = some (.lst (zs.map V.str)) := f9.get htx1 ntx_p
    refine r_itL (.of (f9_13.get htx9 List.not_mem_nil)) ?_
    refine f_list (xs := zs.map V.str) (fun m σ' H' => ∃ x10, σ' = [some (V.ref sc), some (V.ref l), some (V.ref r), some (V.str ls), some (V.ref bl), some (V.ref fl), some (V.ref pp), some (V.ref x), some (V.ref tx), some (V.int (0 + (i : Int))), x10] ∧ Fr [] H9 H') ?_ ?_ ?_ ?_
    · exact ⟨_, rfl, f9_13⟩
    · rintro m σ' H' ⟨_, _, f⟩
      exact .of (f.get htx9 List.not_mem_nil)
    · rintro m v σ' H14 hv ⟨y10, rfl, f14⟩
      obtain ⟨z, hz, rfl⟩ : ∃ z, z ∈ zs ∧ V.str z = v := by
        obtain ⟨z, h1, h2⟩ := List.mem_map.mp (List.mem_of_getElem? hv)
        exact ⟨z, h1, h2⟩
      have hzl := htx3 z hz
      walk_at "go"
      have tA : TxAt K H14 x ls body fin := ⟨dx, b2, f2a, bv, fv, f14.get bx9 List.not_mem_nil, f14.get bb2 List.not_mem_nil, f14.get bf2 List.not_mem_nil, ab.fr f14, af.fr f14⟩
      refine u_tImg tA hso okb.m okf.m (by omega) (by omega) hzl fun H15 f15 => ?_
      walk_at "go"
      have okI : okD 0 (osDt (spellO ls body fin z.cps.toList)) := spellO_ok hso okb.m okf.m
      have okI3 : okD 3 (osDt (spellO ls body fin z.cps.toList)) := spellO_ok hso okb.m okf.m
      refine u_plain (osDt_dp _) okI3 fun v16 H16 f16 hv16 => ?_
      walk_at "go"
      have f9_16 : Fr [] H9 H16 := f16.step0 (f15.step0 f14)
      refine u_spelt (f9_16.tup (nr_pb f9)) (f9_16.get bbl List.not_mem_nil) (f9_16.get bfl List.not_mem_nil) (ab.fr f9_16) (af.fr f9_16) hso okb.m okf.m (by omega) (by omega) hzl fun H17 f17 => ?_
      walk_at "go"
      refine u_plain (osDt_dp _) okI3 fun v18 H18 f18 hv18 => ?_
      refine r_neD (Dp.fr0 f18 _ _ (Dp.fr0 f17 _ _ (Df.dp _ _ hv16))) (Df.dp _ _ hv18) (plD_shaped okI3 (by decide)) (plD_shaped okI3 (by decide)) ?_
      rw [plD_refl okI3]
      walk_at "go"
      refine r_ff ?_
      walk_at "go"
      exact ⟨_, rfl, f18.step0 (f17.step0 f9_16)⟩
    · rintro σ' H14 ⟨y10, rfl, f14⟩
      have e1 := f14.get p1 List.not_mem_nil
      have e2 := f14.get p2 List.not_mem_nil
      have e3 := f14.get (f9.get (f8.get h5_7 (ne1 nppl)) npp_p) List.not_mem_nil
      walk_at "go"
      refine r_ixL (.of e3) (v := .ref pb) (by rfl) ?_
      refine r_tyL e1 ?_
      walk_at "go"
      rename_i t3 H15 n15 f15 h15
      refine r_append (f15.get e1 List.not_mem_nil) (by omega) fun H16 f16 h16 => ?_
      have f16' : Fr [pb] H14 H16 := f16.stepS f15.any
      have npp1 : pp ∉ [pb] := fun z => npp_p (by rw [List.mem_singleton.mp z]; exact List.mem_cons_self ..)
      walk_at "go"
      refine r_ixL (.of (f16'.get e3 npp1)) (v := .ref pf) (by rfl) ?_
      have e2' := f16'.get e2 (by simpa using npbf.symm)
      refine r_tyL e2' ?_
      walk_at "go"
      rename_i t4 H17 n17 f17 h17
      refine r_append (f17.get e2' List.not_mem_nil) (by omega) fun H18 f18 h18 => ?_
      walk_at "go"
      have fin1 : Fr [pb, pf] H8 H16 := f16.stepL (f15.step0 (f14.step0 f9)) (by simp)
      refine ⟨_, _, _, _, rfl, f18.stepL (f17.step0 fin1) (by simp), f18.get (f17.get h16 List.not_mem_nil) (by simpa using npbf), h18, by rw [List.length_append, List.length_singleton]; omega, by rw [List.length_append, List.length_singleton]; omega⟩
  · rintro σ' H9 ⟨x9, x10, pv1, pv2, rfl, f9, p1, p2, p3, p4⟩
    walk_at "go"
    exact q _
theorem ok_law_plain {P : Program} {w : World} {K : PySem.W.Frag} {mg : Str → Option Value} {base : Heap} (T : Tx K w mg) : ∀ n, Cal P w K mg base CX0 (n + 1) "_law_plain" ["value"] (spPl K n) := by
  intro n
  induction n with
  | zero => exact cal_never T.d_law_plain (fun _ _ _ _ _ _ us hl => match us, hl with | [_], _ => rfl)
  | succ n c_law_plain =>
  show Cal P w K mg base CX0 (n + 1 + 1) "_law_plain" ["value"] (spPlS K n)
  refine cal_mk T.d_law_plain sc_law_plain (fun _ _ _ _ h => sp1_len h) (fun _ _ _ _ _ _ us hl => match us, hl with | [_], _ => rfl) fun f cdv A outer s H vs Q E hr h => ?_
  obtain ⟨x0, rfl, h⟩ := h
  refine ⟨_, PSs.nox (pss_cons (ps_if (pt_truG (pe_callB c_isi (by rfl) T.isinstance bt_isinstance (pa_cons (pv 0) (pa_cons (pe_tupG (pa_cons (pe_bltn (v := .ty "tuple") (by rfl) T.tuple bt_tuple rfl) (pa_cons (pe_bltn (v := .ty "list") (by rfl) T.list bt_list rfl) pa_nil))) pa_nil)))) (pss_one (ps_ret (pe_op op_addA (pe_lstG (pa_cons (pe_callB c_isi (by rfl) T.isinstance bt_isinstance (pa_cons (pv 0) (pa_cons (pe_bltn (v := .ty "list") (by rfl) T.list bt_list rfl) pa_nil))) pa_nil)) (pe_lc (own := [("item", 1)]) (g := gName 1) (tt := tYes) rfl sc_law_plain.nd (pi_any (pv 0)) (blkOk_by (own := [("item", 1)]) (N := ["value", "item"]) (sc := defScope s_law_plain) (by decide +kernel)) (fun _ _ _ _ _ => pg_name (i := 1) sc_law_plain.nd rfl (Or.inl rfl)) (fun _ _ _ _ _ => pts_nil) (fun _ _ _ _ _ => (pe_callC c_law_plain (hr.mono (by omega)) (by rfl) pass0 (pa_cons (pv 1) pa_nil))))))) pss_nil)
      (pss_cons (ps_if (PW.pt (pw_or (pt_cmpG op_isN1 (pv 0) pe_non (nomark _)) (pw_or1 (pt_truG (pe_callB c_isi (by rfl) T.isinstance bt_isinstance (pa_cons (pv 0) (pa_cons (pe_bltn (v := .ty "bool") (by rfl) T.bool bt_bool rfl) pa_nil))))))) (pss_one (ps_ret (pe_ix ix_seq (pe_lstG (pa_cons pe_str (pa_cons pe_str (pa_cons pe_str pa_nil)))) (pe_op op_addA (pe_callTy c_int (by rfl) T.int bt_int (pa_cons (pe_cmpR op_notN1 (pv 0) pe_non (nomark _)) pa_nil)) (pe_callTy c_int (by rfl) T.int bt_int (pa_cons (pe_cmpR op_isB (pv 0) pe_bl (nomark _)) pa_nil))) (fun _ _ => rfl)))) pss_nil)
      (pss_cons (ps_if (pt_truG (pe_callB c_isi (by rfl) T.isinstance bt_isinstance (pa_cons (pv 0) (pa_cons (pe_tupG (pa_cons (pe_bltn (v := .ty "int") (by rfl) T.int bt_int rfl) (pa_cons (pe_bltn (v := .ty "str") (by rfl) T.str bt_str rfl) pa_nil))) pa_nil)))) (pss_one (ps_ret (pe_lstG (pa_cons (pe_callB c_isi (by rfl) T.isinstance bt_isinstance (pa_cons (pv 0) (pa_cons (pe_bltn (v := .ty "str") (by rfl) T.str bt_str rfl) pa_nil))) (pa_cons (pv 0) pa_nil))))) pss_nil)
      (pss_one (ps_ret pe_str))))), ?_⟩
  show (_ : L2.St → Hp → Prop) [some x0, none] H
  try dsimp only [cx_K, cx_K']
  obtain ⟨d, hd, ok, q⟩ := h
  walk_at "go"
  rename_i p H1 n1 f1 h1
  cases hd with
  | non =>
    refine r_isi2 h1 (.base .non) (kit2 (a := false) (b := false) (by decide +kernel) (by decide +kernel)) ?_
    walk_at "go"
    refine r_ff ?_
    walk_at "go"
    refine r_dt rfl ?_
    walk_at "go"
    rename_i p2 H2 n2 f2 h2
    refine r_ixL (v := .str "None") (.of h2) (by decide +kernel) ?_
    exact q _ _ (f2.step0 f1) (.str _)
  | bl b =>
    refine r_isi2 h1 (.base (.bl b)) (kit2 (a := false) (b := false) (by decide +kernel) (by decide +kernel)) ?_
    walk_at "go"
    refine r_ff ?_
    walk_at "go"
    refine r_df (fun z => by cases z) ?_
    walk_at "go"
    refine r_isi1 (.base (.bl b)) (kit_ty (r := true) (by decide +kernel)) ?_
    walk_at "go"
    rename_i p2 H2 n2 f2 h2
    cases b with
    | true =>
      refine r_ixL (v := .str "True") (.of h2) (by decide +kernel) ?_
      exact q _ _ (f2.step0 f1) (.str _)
    | false =>
      refine r_ixL (v := .str "False") (.of h2) (by decide +kernel) ?_
      exact q _ _ (f2.step0 f1) (.str _)
  | int i =>
    refine r_isi2 h1 (.base (.int i)) (kit2 (a := false) (b := false) (by decide +kernel) (by decide +kernel)) ?_
    walk_at "go"
    refine r_ff ?_
    walk_at "go"
    refine r_df (fun z => by cases z) ?_
    walk_at "go"
    refine r_isi1 (.base (.int i)) (kit_ty (r := false) (by decide +kernel)) ?_
    walk_at "go"
    rename_i p2 H2 n2 f2 h2
    refine r_isi2 h2 (.base (.int i)) (kit2 (a := true) (b := false) (by decide +kernel) (by decide +kernel)) ?_
    walk_at "go"
    refine r_tt ?_
    walk_at "go"
    refine r_isi1 (.base (.int i)) (kit_ty (r := false) (by decide +kernel)) ?_
    walk_at "go"
    rename_i p3 H3 n3 f3 h3
    exact q _ _ (f3.step0 (f2.step0 f1)) (.lst (f1.dom (f2.dom n3)) h3 (.cons (.bl _) (.cons (.int i) .nil)))
  | str i =>
    refine r_isi2 h1 (.base (.str i)) (kit2 (a := false) (b := false) (by decide +kernel) (by decide +kernel)) ?_
    walk_at "go"
    refine r_ff ?_
    walk_at "go"
    refine r_df (fun z => by cases z) ?_
    walk_at "go"
    refine r_isi1 (.base (.str i)) (kit_ty (r := false) (by decide +kernel)) ?_
    walk_at "go"
    rename_i p2 H2 n2 f2 h2
    refine r_isi2 h2 (.base (.str i)) (kit2 (a := false) (b := true) (by decide +kernel) (by decide +kernel)) ?_
    walk_at "go"
    refine r_tt ?_
    walk_at "go"
    refine r_isi1 (.base (.str i)) (kit_ty (r := true) (by decide +kernel)) ?_
    walk_at "go"
    rename_i p3 H3 n3 f3 h3
    exact q _ _ (f3.step0 (f2.step0 f1)) (.lst (f1.dom (f2.dom n3)) h3 (.cons (.bl _) (.cons (.str i) .nil)))
  | @lst a xs ds hs ha =>
    have hd0 : Dp K H (.ref a) (.list ds) := .lst hs ha
    have ty : TyX K H1 (.ref a) (.type "list") := tag_ok (Dp.fr0 f1 _ _ hd0)
    refine r_isi2 h1 ty (kit2 (a := false) (b := true) (by decide +kernel) (by decide +kernel)) ?_
    walk_at "go"
    refine r_tt ?_
    walk_at "go"
    refine r_isi1 ty (kit_ty (r := true) (by decide +kernel)) ?_
    walk_at "go"
    rename_i p2 H2 n2 f2 h2
    have f2' := f2.step0 f1
    cases n with
    | zero => exact ok.elim
    | succ n =>
    refine r_itL (f2'.sql hs List.not_mem_nil) ?_
    refine l_list (xs := xs) (fun A i H' => ∃ HA vs, Fr [] H2 HA ∧ HA A = some (.lst []) ∧ Fr [A] HA H' ∧ Fr [] H2 H' ∧ H' A = some (.lst vs) ∧ DfAll HA H' vs (plAll (ds.take i)) ∧ vs.length ≤ i) ?_ ?_ ?_ ?_
    · intro A H' nA fA hA
      exact ⟨H', [], fA, hA, Fr.refl _ _, fA, hA, by rw [List.take_zero, plAll]; exact .nil, Nat.le_refl _⟩
    · rintro A i H' ⟨HA, vs, _, _, _, g, _⟩
      exact g.sql (f2'.sql hs List.not_mem_nil) List.not_mem_nil
    · rintro A i x H3 nA hx ⟨HA, vs, gA, hA, g1, g2, h3, hv, hl⟩
      have hlen := (List.getElem?_eq_some_iff.mp hx).1
      have hdl := DpAll.length ha
      obtain ⟨d, hd, hdx⟩ := DpAll.get ha hx
      walk_at "wp"
      walk_at "go"
      refine r_kElt rfl ?_
      walk_at "go"
      refine u_plain (Dp.fr0 (g2.step0 f2') _ _ hdx) (ok.2 d (List.mem_of_getElem? hd)) fun v H4 f4 hv4 => ?_
      have h4 := f4.get h3 List.not_mem_nil
      refine r_kAcc h4 (by have := ok.1; omega) fun H5 f5 h5 => ?_
      have ne : ∀ a ∈ [A], HA a ≠ none := fun a ha => by rw [List.mem_singleton.mp ha, hA]; exact fun z => by cases z
      refine ⟨HA, vs ++ [v], gA, hA, f5.stepS (f4.step0 g1), f5.stepN (f4.step0 g2) nA, h5, ?_, by rw [List.length_append, List.length_singleton]; omega⟩
      have e1 : plAll (ds.take (i + 1)) = plAll (ds.take i) ++ [plD d] := by
        rw [plAll_map, plAll_map, List.take_add_one, hd]; simp
      rw [e1]
      exact (DfAll.fr f5 ne _ _ (DfAll.fr f4 (fun a h => absurd h List.not_mem_nil) _ _ hv)).app (.cons (Df.fr f5 ne _ _ (Df.weak (fun a => g1.dom) _ _ hv4)) .nil)
    · rintro A H3 nA ⟨HA, vs, gA, hA, g1, g2, h3, hv, hl⟩
      have hdl := DpAll.length ha
      rw [List.take_of_length_le (by omega)] at hv
      refine r_addL (g2.get h2 List.not_mem_nil) h3 (by rw [List.length_singleton]; have := ok.1; omega) fun p3 H4 n4 f4 h4 => ?_
      refine q _ _ (f4.step0 (g2.step0 f2')) (.lst (f2'.dom (g2.dom n4)) h4 ?_)
      rw [show ∀ d : List PyData, PyData.bool true :: plAll d = [PyData.bool true] ++ plAll d from fun _ => rfl]
      refine DfAll.app (.cons (.bl _) .nil) (DfAll.fr f4 (fun a h => absurd h List.not_mem_nil) _ _ (DfAll.weak (fun a h => f2'.dom (gA.dom h)) _ _ hv))
  | @tup a xs ds hs ha =>
    have hd0 : Dp K H (.ref a) (.tuple ds) := .tup hs ha
    have ty : TyX K H1 (.ref a) (.type "tuple") := tag_ok (Dp.fr0 f1 _ _ hd0)
    refine r_isi2 h1 ty (kit2 (a := true) (b := false) (by decide +kernel) (by decide +kernel)) ?_
    walk_at "go"
    refine r_tt ?_
    walk_at "go"
    refine r_isi1 ty (kit_ty (r := false) (by decide +kernel)) ?_
    walk_at "go"
    rename_i p2 H2 n2 f2 h2
    have f2' := f2.step0 f1
    cases n with
    | zero => exact ok.elim
    | succ n =>
    refine r_itT (f2'.sqt hs List.not_mem_nil) ?_
    refine l_tup (xs := xs) (fun A i H' => ∃ HA vs, Fr [] H2 HA ∧ HA A = some (.lst []) ∧ Fr [A] HA H' ∧ Fr [] H2 H' ∧ H' A = some (.lst vs) ∧ DfAll HA H' vs (plAll (ds.take i)) ∧ vs.length ≤ i) ?_ ?_ ?_ ?_
    · intro A H' nA fA hA
      exact ⟨H', [], fA, hA, Fr.refl _ _, fA, hA, by rw [List.take_zero, plAll]; exact .nil, Nat.le_refl _⟩
    · rintro A i H' ⟨HA, vs, _, _, _, g, _⟩
      exact g.sqt (f2'.sqt hs List.not_mem_nil) List.not_mem_nil
    · rintro A i x H3 nA hx ⟨HA, vs, gA, hA, g1, g2, h3, hv, hl⟩
      have hlen := (List.getElem?_eq_some_iff.mp hx).1
      have hdl := DpAll.length ha
      obtain ⟨d, hd, hdx⟩ := DpAll.get ha hx
      walk_at "wp"
      walk_at "go"
      refine r_kElt rfl ?_
      walk_at "go"
      refine u_plain (Dp.fr0 (g2.step0 f2') _ _ hdx) (ok.2 d (List.mem_of_getElem? hd)) fun v H4 f4 hv4 => ?_
      have h4 := f4.get h3 List.not_mem_nil
      refine r_kAcc h4 (by have := ok.1; omega) fun H5 f5 h5 => ?_
      have ne : ∀ a ∈ [A], HA a ≠ none := fun a ha => by rw [List.mem_singleton.mp ha, hA]; exact fun z => by cases z
      refine ⟨HA, vs ++ [v], gA, hA, f5.stepS (f4.step0 g1), f5.stepN (f4.step0 g2) nA, h5, ?_, by rw [List.length_append, List.length_singleton]; omega⟩
      have e1 : plAll (ds.take (i + 1)) = plAll (ds.take i) ++ [plD d] := by
        rw [plAll_map, plAll_map, List.take_add_one, hd]; simp
      rw [e1]
      exact (DfAll.fr f5 ne _ _ (DfAll.fr f4 (fun a h => absurd h List.not_mem_nil) _ _ hv)).app (.cons (Df.fr f5 ne _ _ (Df.weak (fun a => g1.dom) _ _ hv4)) .nil)
    · rintro A H3 nA ⟨HA, vs, gA, hA, g1, g2, h3, hv, hl⟩
      have hdl := DpAll.length ha
      rw [List.take_of_length_le (by omega)] at hv
      refine r_addL (g2.get h2 List.not_mem_nil) h3 (by rw [List.length_singleton]; have := ok.1; omega) fun p3 H4 n4 f4 h4 => ?_
      refine q _ _ (f4.step0 (g2.step0 f2')) (.lst (f2'.dom (g2.dom n4)) h4 ?_)
      rw [show ∀ d : List PyData, PyData.bool false :: plAll d = [PyData.bool false] ++ plAll d from fun _ => rfl]
      refine DfAll.app (.cons (.bl _) .nil) (DfAll.fr f4 (fun a h => absurd h List.not_mem_nil) _ _ (DfAll.weak (fun a h => f2'.dom (gA.dom h)) _ _ hv))
def e_BODY_ORDERS : List (Str × He.Dv) := [("sign", .str "lk"), ("echo", .str ""), ("keep", .str ""), ("kept", .str "lk"), ("pay", .str ""), ("write", .str "w"), ("raise", .str "f"), ("lower", .str "f"), ("up", .str "fk"), ("down", .str "fk"), ("skip", .str "k"), ("next", .str ""), ("lose", .str "")]
def e_BOUNDS : List (Str × He.Dv) := [("r", .int (8)), ("f", .int (4))]
def e_FINISH_ORDERS : List (Str × He.Dv) := [("kept", .str "lk"), ("pay", .str ""), ("write", .str "w"), ("raise", .str "f"), ("lower", .str "f"), ("up", .str "fk"), ("down", .str "fk"), ("skip", .str "k"), ("next", .str ""), ("lose", .str "")]
def e_NUMBER_ORDERS : List (Str × He.Dv) := [("put", .str "rn"), ("copy", .str "rr"), ("add", .str "rrr"), ("times", .str "rrn"), ("over", .str "rd"), ("rest", .str "rd"), ("less", .str "rrk"), ("same", .str "rrk"), ("skip", .str "k"), ("answer", .str "r"), ("lose", .str "")]
/-! ### the head: facts by names, the run -/
abbrev loose : List PySem.Str := (["_wall", "__name__", "FLAGS", "Speller", "text_image", "BridgeError", "InvalidRecipe", "TooMany", "MOST_ORDERS", "BOUNDS", "MOST_DIVISOR", "LETTERS", "NUMBER_ORDERS", "FINISH_ORDERS", "BODY_ORDERS", "fits", "shape_of", "allowed", "check_orders", "check_letters", "TextRecipe", "_law_deck", "_law_take", "_law_plain", "_law_text_order", "_law_text_recipe", "_law_part", "_law_spelt", "_law_texts"] : List PySem.Str)
def fn : List He.DefD := [⟨("_law_take", none), "_law_take", "_law_take", defArgs s_law_take, defBody s_law_take, defScope s_law_take, [], []⟩,
  ⟨("_law_deck", none), "_law_deck", "_law_deck", defArgs s_law_deck, defBody s_law_deck, defScope s_law_deck, [], []⟩,
  ⟨("_law_plain", none), "_law_plain", "_law_plain", defArgs s_law_plain, defBody s_law_plain, defScope s_law_plain, [], []⟩,
  ⟨("fits", none), "fits", "fits", defArgs s_fits, defBody s_fits, defScope s_fits, [], []⟩,
  ⟨("shape_of", none), "shape_of", "shape_of", defArgs s_shape_of, defBody s_shape_of, defScope s_shape_of, [], []⟩,
  ⟨("allowed", none), "allowed", "allowed", defArgs s_allowed, defBody s_allowed, defScope s_allowed, [], []⟩,
  ⟨("check_orders", none), "check_orders", "check_orders", defArgs s_check_orders, defBody s_check_orders, defScope s_check_orders, [], []⟩,
  ⟨("check_letters", none), "check_letters", "check_letters", defArgs s_check_letters, defBody s_check_letters, defScope s_check_letters, [], []⟩,
  ⟨("Speller", some "__init__"), "__init__", "Speller.__init__", defArgs s_Speller___init__, defBody s_Speller___init__, defScope s_Speller___init__, [], []⟩,
  ⟨("Speller", some "do"), "do", "Speller.do", defArgs s_Speller_do, defBody s_Speller_do, defScope s_Speller_do, [], []⟩,
  ⟨("Speller", some "skipped"), "skipped", "Speller.skipped", defArgs s_Speller_skipped, defBody s_Speller_skipped, defScope s_Speller_skipped, [], []⟩,
  ⟨("Speller", some "execute"), "execute", "Speller.execute", defArgs s_Speller_execute, defBody s_Speller_execute, defScope s_Speller_execute, [], []⟩,
  ⟨("text_image", none), "text_image", "text_image", defArgs s_text_image, defBody s_text_image, defScope s_text_image, [], []⟩,
  ⟨("TextRecipe", some "__init__"), "__init__", "TextRecipe.__init__", defArgs s_TextRecipe___init__, defBody s_TextRecipe___init__, defScope s_TextRecipe___init__, [], []⟩,
  ⟨("_law_text_order", none), "_law_text_order", "_law_text_order", defArgs s_law_text_order, defBody s_law_text_order, defScope s_law_text_order, [], []⟩,
  ⟨("_law_text_recipe", none), "_law_text_recipe", "_law_text_recipe", defArgs s_law_text_recipe, defBody s_law_text_recipe, defScope s_law_text_recipe, [], []⟩,
  ⟨("_law_part", none), "_law_part", "_law_part", defArgs s_law_part, defBody s_law_part, defScope s_law_part, [], []⟩,
  ⟨("_law_spelt", none), "_law_spelt", "_law_spelt", defArgs s_law_spelt, defBody s_law_spelt, defScope s_law_spelt, [], []⟩,
  ⟨("_law_texts", none), "_law_texts", "_law_texts", defArgs s_law_texts, defBody s_law_texts, defScope s_law_texts, [], []⟩,
  ⟨("law", none), "law", "law", defArgs s_law, defBody s_law, defScope s_law, [], []⟩]
def fa : List He.Fa := [.free "abs", .free "bool", .glo "BODY_ORDERS", .glo "BOUNDS", .glo "FINISH_ORDERS", .int "FLAGS" (4), .str "LETTERS" "abcdefghijklmnopqrstuvwxyz", .int "MOST_DIVISOR" (6), .int "MOST_ORDERS" (400), .glo "NUMBER_ORDERS", .free "int", .free "isinstance", .free "len", .free "list", .free "min", .free "range", .free "str", .free "tuple", .free "zip", .glo "_law_take", .glo "_law_deck", .glo "_law_plain", .glo "fits", .glo "shape_of", .glo "allowed", .glo "check_orders", .glo "check_letters", .mkr "Speller", .glo "Speller", .meth "Speller" "do", .cls "Speller", .meth "Speller" "skipped", .meth "Speller" "execute", .glo "text_image", .mkr "TextRecipe", .glo "TextRecipe", .glo "_law_text_order", .glo "_law_text_recipe", .glo "_law_part", .glo "_law_spelt", .glo "_law_texts", .glo "law", .noat "Speller" "flags", .noat "Speller" "kept", .noat "Speller" "written", .cls "TextRecipe", .noat "TextRecipe" "letters", .noat "TextRecipe" "body", .noat "TextRecipe" "finish"]
def ts : List He.Tab := [((fun K => He.ga K "BODY_ORDERS"), e_BODY_ORDERS.map (·.1)), ((fun K => He.ga K "BOUNDS"), e_BOUNDS.map (·.1)), ((fun K => He.ga K "FINISH_ORDERS"), e_FINISH_ORDERS.map (·.1)), ((fun K => He.ga K "NUMBER_ORDERS"), e_NUMBER_ORDERS.map (·.1))]
def ex (K : PySem.W.Frag) : Bool := (He.valsB K (He.ga K "BODY_ORDERS") e_BODY_ORDERS && (He.valsB K (He.ga K "BOUNDS") e_BOUNDS && (He.valsB K (He.ga K "FINISH_ORDERS") e_FINISH_ORDERS && (He.valsB K (He.ga K "NUMBER_ORDERS") e_NUMBER_ORDERS && true))))
abbrev R : PySem.W.OpenRow := PySem.W.OpenLaw.row PySem.Challenge.rw_gluebridge_k11_text_recipes
abbrev hk : PySem.W.Hook := He.hookX 5 fa fn ts [] ex
def ob (s : PySem.W.SharedT) : He.AlX := He.obsX 5 fa fn ts [] ex (HandSHeadRun.getT s)
theorem ob_eq (s : PySem.W.SharedT) : ob s = hk.obs s.abs := He.obsX_eq (HandSHeadRun.getT_eq s)
theorem hd_run (w : World) : HandSHeadRun.RunEq R (PySem.W.view R.prog [32]) hk ob 6000 loose w := by
  refine PySem.W.byRow2 "special-get-raises" (P := fun w => HandSHeadRun.RunEq R (PySem.W.view R.prog [32]) hk ob 6000 loose w) (fun w => ?_) (fun w => ?_) w
  · intro os
    kernel_rfl
  · intro os
    kernel_rfl
theorem tx_of {w : World} {K : PySem.W.Frag} {h : Heap} {mg : Str → Option Value} (X : K.In h) (G : h.Ns mainGlobals mg) (c : He.SaysX fa fn ts [] ex w h K) : Tx K w mg where
  abs := He.free_ok X G (c.t.d.fact 0 (f := .free "abs") rfl)
  bool := He.free_ok X G (c.t.d.fact 1 (f := .free "bool") rfl)
  g_BODY_ORDERS := He.glo_ok X G (c.t.d.fact 2 (f := .glo "BODY_ORDERS") rfl)
  w_BODY_ORDERS := wd_of (kvs := e_BODY_ORDERS) (tab_at c.t 0 (t := ((fun K => He.ga K "BODY_ORDERS"), e_BODY_ORDERS.map (·.1))) rfl) ((He.ba c.more).1) (by decide +kernel)
  g_BOUNDS := He.glo_ok X G (c.t.d.fact 3 (f := .glo "BOUNDS") rfl)
  w_BOUNDS := wd_of (kvs := e_BOUNDS) (tab_at c.t 1 (t := ((fun K => He.ga K "BOUNDS"), e_BOUNDS.map (·.1))) rfl) ((He.ba (He.ba c.more).2).1) (by decide +kernel)
  g_FINISH_ORDERS := He.glo_ok X G (c.t.d.fact 4 (f := .glo "FINISH_ORDERS") rfl)
  w_FINISH_ORDERS := wd_of (kvs := e_FINISH_ORDERS) (tab_at c.t 2 (t := ((fun K => He.ga K "FINISH_ORDERS"), e_FINISH_ORDERS.map (·.1))) rfl) ((He.ba (He.ba (He.ba c.more).2).2).1) (by decide +kernel)
  g_FLAGS := He.int_ok X G (c.t.d.fact 5 (f := .int "FLAGS" (4)) rfl)
  g_LETTERS := He.str_ok X G (c.t.d.fact 6 (f := .str "LETTERS" "abcdefghijklmnopqrstuvwxyz") rfl)
  g_MOST_DIVISOR := He.int_ok X G (c.t.d.fact 7 (f := .int "MOST_DIVISOR" (6)) rfl)
  g_MOST_ORDERS := He.int_ok X G (c.t.d.fact 8 (f := .int "MOST_ORDERS" (400)) rfl)
  g_NUMBER_ORDERS := He.glo_ok X G (c.t.d.fact 9 (f := .glo "NUMBER_ORDERS") rfl)
  w_NUMBER_ORDERS := wd_of (kvs := e_NUMBER_ORDERS) (tab_at c.t 3 (t := ((fun K => He.ga K "NUMBER_ORDERS"), e_NUMBER_ORDERS.map (·.1))) rfl) ((He.ba (He.ba (He.ba (He.ba c.more).2).2).2).1) (by decide +kernel)
  int := He.free_ok X G (c.t.d.fact 10 (f := .free "int") rfl)
  isinstance := He.free_ok X G (c.t.d.fact 11 (f := .free "isinstance") rfl)
  len := He.free_ok X G (c.t.d.fact 12 (f := .free "len") rfl)
  list := He.free_ok X G (c.t.d.fact 13 (f := .free "list") rfl)
  min := He.free_ok X G (c.t.d.fact 14 (f := .free "min") rfl)
  range := He.free_ok X G (c.t.d.fact 15 (f := .free "range") rfl)
  str := He.free_ok X G (c.t.d.fact 16 (f := .free "str") rfl)
  tuple := He.free_ok X G (c.t.d.fact 17 (f := .free "tuple") rfl)
  zip := He.free_ok X G (c.t.d.fact 18 (f := .free "zip") rfl)
  d_law_take := def_at (c.t.d.def_ 0 (d := ⟨("_law_take", none), "_law_take", "_law_take", defArgs s_law_take, defBody s_law_take, defScope s_law_take, [], []⟩) rfl) (He.glo_ok X G (c.t.d.fact 19 (f := .glo "_law_take") rfl))
  d_law_deck := def_at (c.t.d.def_ 1 (d := ⟨("_law_deck", none), "_law_deck", "_law_deck", defArgs s_law_deck, defBody s_law_deck, defScope s_law_deck, [], []⟩) rfl) (He.glo_ok X G (c.t.d.fact 20 (f := .glo "_law_deck") rfl))
  d_law_plain := def_at (c.t.d.def_ 2 (d := ⟨("_law_plain", none), "_law_plain", "_law_plain", defArgs s_law_plain, defBody s_law_plain, defScope s_law_plain, [], []⟩) rfl) (He.glo_ok X G (c.t.d.fact 21 (f := .glo "_law_plain") rfl))
  d_fits := def_at (c.t.d.def_ 3 (d := ⟨("fits", none), "fits", "fits", defArgs s_fits, defBody s_fits, defScope s_fits, [], []⟩) rfl) (He.glo_ok X G (c.t.d.fact 22 (f := .glo "fits") rfl))
  d_shape_of := def_at (c.t.d.def_ 4 (d := ⟨("shape_of", none), "shape_of", "shape_of", defArgs s_shape_of, defBody s_shape_of, defScope s_shape_of, [], []⟩) rfl) (He.glo_ok X G (c.t.d.fact 23 (f := .glo "shape_of") rfl))
  d_allowed := def_at (c.t.d.def_ 5 (d := ⟨("allowed", none), "allowed", "allowed", defArgs s_allowed, defBody s_allowed, defScope s_allowed, [], []⟩) rfl) (He.glo_ok X G (c.t.d.fact 24 (f := .glo "allowed") rfl))
  d_check_orders := def_at (c.t.d.def_ 6 (d := ⟨("check_orders", none), "check_orders", "check_orders", defArgs s_check_orders, defBody s_check_orders, defScope s_check_orders, [], []⟩) rfl) (He.glo_ok X G (c.t.d.fact 25 (f := .glo "check_orders") rfl))
  d_check_letters := def_at (c.t.d.def_ 7 (d := ⟨("check_letters", none), "check_letters", "check_letters", defArgs s_check_letters, defBody s_check_letters, defScope s_check_letters, [], []⟩) rfl) (He.glo_ok X G (c.t.d.fact 26 (f := .glo "check_letters") rfl))
  d_Speller___init__ := init_at (c.t.d.def_ 8 (d := ⟨("Speller", some "__init__"), "__init__", "Speller.__init__", defArgs s_Speller___init__, defBody s_Speller___init__, defScope s_Speller___init__, [], []⟩) rfl) (He.mkr_ok (c.t.d.fact 27 (f := .mkr "Speller") rfl)) (He.glo_ok X G (c.t.d.fact 28 (f := .glo "Speller") rfl))
  d_Speller_do := meth_at (c.t.d.def_ 9 (d := ⟨("Speller", some "do"), "do", "Speller.do", defArgs s_Speller_do, defBody s_Speller_do, defScope s_Speller_do, [], []⟩) rfl) (He.meth_ok (c.t.d.fact 29 (f := .meth "Speller" "do") rfl)) (He.cls_ok (c.t.d.fact 30 (f := .cls "Speller") rfl))
  d_Speller_skipped := meth_at (c.t.d.def_ 10 (d := ⟨("Speller", some "skipped"), "skipped", "Speller.skipped", defArgs s_Speller_skipped, defBody s_Speller_skipped, defScope s_Speller_skipped, [], []⟩) rfl) (He.meth_ok (c.t.d.fact 31 (f := .meth "Speller" "skipped") rfl)) (He.cls_ok (c.t.d.fact 30 (f := .cls "Speller") rfl))
  d_Speller_execute := meth_at (c.t.d.def_ 11 (d := ⟨("Speller", some "execute"), "execute", "Speller.execute", defArgs s_Speller_execute, defBody s_Speller_execute, defScope s_Speller_execute, [], []⟩) rfl) (He.meth_ok (c.t.d.fact 32 (f := .meth "Speller" "execute") rfl)) (He.cls_ok (c.t.d.fact 30 (f := .cls "Speller") rfl))
  d_text_image := def_at (c.t.d.def_ 12 (d := ⟨("text_image", none), "text_image", "text_image", defArgs s_text_image, defBody s_text_image, defScope s_text_image, [], []⟩) rfl) (He.glo_ok X G (c.t.d.fact 33 (f := .glo "text_image") rfl))
  d_TextRecipe___init__ := init_at (c.t.d.def_ 13 (d := ⟨("TextRecipe", some "__init__"), "__init__", "TextRecipe.__init__", defArgs s_TextRecipe___init__, defBody s_TextRecipe___init__, defScope s_TextRecipe___init__, [], []⟩) rfl) (He.mkr_ok (c.t.d.fact 34 (f := .mkr "TextRecipe") rfl)) (He.glo_ok X G (c.t.d.fact 35 (f := .glo "TextRecipe") rfl))
  d_law_text_order := def_at (c.t.d.def_ 14 (d := ⟨("_law_text_order", none), "_law_text_order", "_law_text_order", defArgs s_law_text_order, defBody s_law_text_order, defScope s_law_text_order, [], []⟩) rfl) (He.glo_ok X G (c.t.d.fact 36 (f := .glo "_law_text_order") rfl))
  d_law_text_recipe := def_at (c.t.d.def_ 15 (d := ⟨("_law_text_recipe", none), "_law_text_recipe", "_law_text_recipe", defArgs s_law_text_recipe, defBody s_law_text_recipe, defScope s_law_text_recipe, [], []⟩) rfl) (He.glo_ok X G (c.t.d.fact 37 (f := .glo "_law_text_recipe") rfl))
  d_law_part := def_at (c.t.d.def_ 16 (d := ⟨("_law_part", none), "_law_part", "_law_part", defArgs s_law_part, defBody s_law_part, defScope s_law_part, [], []⟩) rfl) (He.glo_ok X G (c.t.d.fact 38 (f := .glo "_law_part") rfl))
  d_law_spelt := def_at (c.t.d.def_ 17 (d := ⟨("_law_spelt", none), "_law_spelt", "_law_spelt", defArgs s_law_spelt, defBody s_law_spelt, defScope s_law_spelt, [], []⟩) rfl) (He.glo_ok X G (c.t.d.fact 39 (f := .glo "_law_spelt") rfl))
  d_law_texts := def_at (c.t.d.def_ 18 (d := ⟨("_law_texts", none), "_law_texts", "_law_texts", defArgs s_law_texts, defBody s_law_texts, defScope s_law_texts, [], []⟩) rfl) (He.glo_ok X G (c.t.d.fact 40 (f := .glo "_law_texts") rfl))
  d_law := def_at (c.t.d.def_ 19 (d := ⟨("law", none), "law", "law", defArgs s_law, defBody s_law, defScope s_law, [], []⟩) rfl) (He.glo_ok X G (c.t.d.fact 41 (f := .glo "law") rfl))
  cl_Sp := He.cls_ok (c.t.d.fact 30 (f := .cls "Speller") rfl)
  n_flags := He.noat_ok (c.t.d.fact 42 (f := .noat "Speller" "flags") rfl)
  n_kept := He.noat_ok (c.t.d.fact 43 (f := .noat "Speller" "kept") rfl)
  n_written := He.noat_ok (c.t.d.fact 44 (f := .noat "Speller" "written") rfl)
  cl_TR := He.cls_ok (c.t.d.fact 45 (f := .cls "TextRecipe") rfl)
  n_letters := He.noat_ok (c.t.d.fact 46 (f := .noat "TextRecipe" "letters") rfl)
  n_body := He.noat_ok (c.t.d.fact 47 (f := .noat "TextRecipe" "body") rfl)
  n_finish := He.noat_ok (c.t.d.fact 48 (f := .noat "TextRecipe" "finish") rfl)
theorem all_ok {P : Program} {w : World} {K : PySem.W.Frag} {mg : Str → Option Value} (T : Tx K w mg) (base : Heap) : Cal P w K mg base CX0 6 "law" ["script"] (spLaw K) := by
  have c_law_deck : Cal P w K mg base CX0 1 "_law_deck" ["script", "cells", "each"] (spDeck K) := ok_law_deck T 
  have c_law_take : Cal P w K mg base CX0 1 "_law_take" ["deck", "many"] spTake := ok_law_take T 
  have c_law_text_order : Cal P w K mg base CX0 2 "_law_text_order" ["deck", "letters", "behind", "is_body"] (spTord K) := ok_law_text_order T c_law_take
  have c_law_text_recipe : Cal P w K mg base CX0 3 "_law_text_recipe" ["deck"] spTrec := ok_law_text_recipe T c_law_take c_law_text_order
  have c_check_letters : Cal P w K mg base CX0 1 "check_letters" ["letters"] spLetters := ok_check_letters T 
  have c_shape_of : Cal P w K mg base CX0 1 "shape_of" ["part", "word"] spShape := ok_shape_of T 
  have c_fits : Cal P w K mg base CX0 1 "fits" ["letter", "operand", "behind", "letters"] spFits := ok_fits T 
  have c_allowed : Cal P w K mg base CX0 2 "allowed" ["order", "part", "behind", "letters"] spAllowed := ok_allowed T c_shape_of c_fits
  have c_check_orders : Cal P w K mg base CX0 3 "check_orders" ["part", "orders", "letters"] spCheckG := ok_check_orders T c_allowed
  have m_TextRecipe : Mak P w K mg base CX0 4 "TextRecipe" ["self", "letters", "body", "finish"] (spTxInit K) := ok_TextRecipe___init__ T c_check_letters c_check_orders
  have c_law_texts : Cal P w K mg base CX0 2 "_law_texts" ["deck", "letters"] spTexts := ok_law_texts T c_law_take
  have c_law_plain : ∀ n, Cal P w K mg base CX0 (n + 1) "_law_plain" ["value"] (spPl K n) := ok_law_plain T 
  have m_Speller : Mak P w K mg base CX0 1 "Speller" ["self", "flags", "kept"] (spSpInit K) := ok_Speller___init__ T 
  have c_Speller_do : Mcl P w K mg base CX0 1 "Speller" "do" ["self", "order", "sign"] (spDo K) := ok_Speller_do T 
  have c_Speller_skipped : Mcl P w K mg base CX0 1 "Speller" "skipped" ["self", "order", "sign"] (spSkT K) := ok_Speller_skipped T 
  have c_Speller_execute : Mcl P w K mg base CX0 2 "Speller" "execute" ["self", "orders", "sign"] (spExT K) := ok_Speller_execute T c_Speller_do c_Speller_skipped
  have c_text_image : Cal P w K mg base CX0 3 "text_image" ["recipe", "text"] (spTImg K) := ok_text_image T m_Speller c_Speller_execute
  have c_law_part : Cal P w K mg base CX0 1 "_law_part" ["orders", "world", "sign"] spPart := ok_law_part T 
  have c_law_spelt : Cal P w K mg base CX0 2 "_law_spelt" ["recipe", "text"] spSpelt := ok_law_spelt T c_law_part
  have c_law : Cal P w K mg base CX0 6 "law" ["script"] (spLaw K) := ok_law T c_law_deck c_law_text_recipe m_TextRecipe c_law_texts c_law_plain c_text_image c_law_spelt
  exact c_law
end K11
open PySem PySem.W PySem.Calls PyProof.Rows
theorem PySem.Challenge.cw_gluebridge_k11_text_recipes_holds : PySem.Challenge.rw_gluebridge_k11_text_recipes.Holds := by
  w_on; o_law
  refine HandSHeadRun.head_any (r := OpenLaw.row PySem.Challenge.rw_gluebridge_k11_text_recipes) (q := view (OpenLaw.row PySem.Challenge.rw_gluebridge_k11_text_recipes).prog [32]) (H := K11.hk) (ob := K11.ob) (M := 6000) (loose := K11.loose) (d := HandSHeadRun.topDef (OpenLaw.row PySem.Challenge.rw_gluebridge_k11_text_recipes).prog 32) (kwd := []) K11.ob_eq
    (by kernel_rfl) (fun s => by kernel_rfl) K11.hd_run (by kernel_rfl) (by kernel_rfl) (by kernel_rfl) (by rfl) (by first | assumption | decide +kernel) (by decide +kernel) ⟨rfl, rfl, rfl, rfl, rfl, by decide +kernel⟩ ?hw ?hc
  case hw => w_witness2
  case hc =>
    refine L2.walk_ofE (l := PySem.Challenge.rw_gluebridge_k11_text_recipes) (n := 63) (k := 6) (x := "script") (CX := L2.CX0) rfl (by decide) (by kernel_rfl) ⟨rfl, by decide, by decide⟩ ?F (fun _ _ _ _ z => z)
    intro w mg fa h Y G hmg0
    obtain ⟨K, KX, c⟩ := Y
    have hmg : mg ("law" : PySem.Str) = some (.ref fa) := by
      have e : (HandSHeadRun.topDef (OpenLaw.row PySem.Challenge.rw_gluebridge_k11_text_recipes).prog 32).name = ("law" : PySem.Str) := by kernel_rfl
      rw [← e]
      exact hmg0
    have T := K11.tx_of KX G c
    obtain ⟨fd, hb, hF⟩ := _root_.G.law_fn (P := (PySem.Challenge.rw_gluebridge_k11_text_recipes).prog) (w := w) T.d_law hmg (fun _ _ _ _ _ _ us hl => match us, hl with | [_], _ => rfl) (fun base => K11.all_ok T base)
    exact ⟨K, fd, K11.spLaw K, KX, hb, fun H a ns hl _ hS => ⟨_, rfl, a, ns, rfl, hS, hl, fun _ => rfl⟩, fun base _ _ => hF base⟩
