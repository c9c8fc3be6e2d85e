import PyProof.Rows.All
import Wide.All
import OpenK.AllK
import Wide.FinOn
import HandS.ForMost
import HandS.ForExc
import HandS.Wide
import HandS.IsInst
import HandS.More
import HandS.RevRange
import HandS.TupAny
import HandS.TupLe
import HandS.SortInts
import HandS.Small
import HandS.Codes
import HandS.WideBits
import HandS.ExcIs
import HandS.SetFor
import HandS.Deep
import HandS.DeepEq
import HandS.HotCalls
import HandS.SuiteRaise
import HandS.TupMul
import HandS.Nested
import HandS.EndTab
import PySem.Challenge.RW_nearvault_k09_whole_nearest_items
set_option Elab.async false
set_option linter.all false
set_option maxRecDepth 100000
set_option maxHeartbeats 4000000
/-! Nearvault: what all claims share. -/
namespace NV
open PySem L2

/-! ### packaged callables -/
section
variable (P : Program) (w : World) (K : PySem.W.Frag) (mg : Str → Option Value) (base : Heap)
/-- the def that the module's name x holds keeps its promise -/
def GF (CX : CXT) (k : Nat) (x : Str) (sp : Sp) : Prop := ∃ f fd ps, FnOk P w K mg base CX k f fd ps sp ∧ mg x = some (.ref f) ∧ PySem.W.keepIn K (.ref f) = true ∧ Binds K fd ps []
/-- the method m of the class at C -/
def GM (CX : CXT) (k : Nat) (C : Addr) (m : Str) (sp : Sp) : Prop := ∃ f fd ps, FnOk P w K mg base CX k f fd ps sp ∧ Meth K C m f ∧ Binds K fd ps []
/-- the class at C by its __init__ -/
def GC (CX : CXT) (k : Nat) (x : Str) (C : Addr) (sp : Sp) : Prop := ∃ f fd ps, FnOk P w K mg base CX k f fd ps sp ∧ Mk K C f ∧ mg x = some (.ref C) ∧ Binds K fd ps []
end

section
variable {X : Cx} {CX : CXT} {k : Nat} {x : Str} {sp : Sp} {E : L2.St → XK} {p pos apos : Pos} {e o : Expr} {es : List Expr} {t : TA} {ta : TE} {C : Addr} {m : Str} {pl : Sem Bool}
theorem pass0S : ∀ σ, PassesAt CX0 X σ ((fun _ => E0) σ) := fun _ _ _ _ _ _ _ h => h.elim
theorem passN : ∀ σ, PassesAt (L2.CX X.prog X.w) X σ ((fun _ => E0) σ) := fun σ pins H s e s' I c => passL pins σ H s e s' I c
theorem pe_g (G : GF X.prog X.w X.K X.mg X.base CX k x sp) (hr : Room k X.A) (hx : ∀ σ, PassesAt CX X σ (E σ)) (ha : PA X (e :: es) t) (hg : Gl X x := by rfl)
    (hdb : (x == ("__debug__" : Str)) = false := by decide) (he : starEach (e :: es) X.env = (false, eval e X.env) :: starEach es X.env := by rfl) (hpl : (backTo pos (starEach es X.env)).any (·.1) = false := by rfl) :
    PE X (.Call (.Name x p) (e :: es) [] pos) (tCallS sp E t) := by
  obtain ⟨f, fd, ps, F, hm, hk, hb⟩ := G
  exact pe_callS F hr hg hm hk hb hx ha hdb he hpl
theorem pe_g0 (G : GF X.prog X.w X.K X.mg X.base CX k x sp) (hr : Room k X.A) (hx : ∀ σ, PassesAt CX X σ (E σ)) (hg : Gl X x := by rfl)
    (hdb : (x == ("__debug__" : Str)) = false := by decide) : PE X (.Call (.Name x p) [] [] pos) (tCallS sp E tNil) := by
  obtain ⟨f, fd, ps, F, hm, hk, hb⟩ := G
  refine ⟨fun pins s σ H Q I h => wpAny_Call_Name_kw (ld_glob I hg hm ?_ hdb)⟩
  exact PySem.W.callWith_K0 I.kIn hk (run_fnS (us := []) F hr hb (hx σ) I .nil h)
/-- o.m(e, ..), what is raised wished for at the caller's slots -/
def tMethS (C : Addr) (m : Str) (sp : Sp) (E : L2.St → XK) (ta : TE) (t : TA) : TE := fun σ H Q => ta σ H fun x H1 => ∃ a dx fs, x = .ref a ∧ H1 a = some (.ins C dx fs) ∧ fs.lookup m = none ∧ t σ H1 fun vs H2 => sp (.ref a :: vs) H2 Q (E σ)
theorem pe_gm (c : Cls X.K C) (G : GM X.prog X.w X.K X.mg X.base CX k C m sp) (ho : PE X o ta) (hr : Room k X.A) (hx : ∀ σ, PassesAt CX X σ (E σ)) (ha : PA X (e :: es) t)
    (he : starEach (e :: es) X.env = (false, eval e X.env) :: starEach es X.env := by rfl) (hpl : (backTo pos (starEach es X.env)).any (·.1) = false := by rfl)
    (ht : eval (.Call (.Attribute o m apos) (e :: es) [] pos) X.env = (do
      let ov ← eval o X.env; standAt apos.atName; let (f, first) ← holding [ov] (getMethod ov m pl); callWith pos f first (backTo pos (starEach (e :: es) X.env)) (backToKw pos (keywordEach [] X.env))) := by rfl) :
    PE X (.Call (.Attribute o m apos) (e :: es) [] pos) (tMethS C m sp E ta t) := by
  obtain ⟨f, fd, ps, F, hm, hb⟩ := G
  refine ⟨fun pins s σ H Q I h => PySem.W.methodCall_KW (pl := pl) (thn (ho.run pins s σ H _ I h) fun u s1 ⟨y, H1, I1, ry, a, dx, fs, ey, ea, l, q⟩ => ?_) ht⟩
  subst ey
  cases (show u = Value.ref a from ry)
  refine getmeth_ok I1 ea c hm l (PySem.W.callWith_K (first := [.ref a]) (h₀ := X.base) I.ok.mod.kin hm.kp (thn (ha.run pos pins s1 σ H1 _ I1 q) fun us s2 ⟨vs, H2, I2, r, q2⟩ => ⟨I2.kIn, ?_⟩) he hpl)
  exact run_fnS (us := .ref a :: us) (vs := .ref a :: vs) F hr hb (hx σ) I2 (.cons rfl r) q2
theorem pe_gm0 (c : Cls X.K C) (G : GM X.prog X.w X.K X.mg X.base CX k C m sp) (ho : PE X o ta) (hr : Room k X.A) (hx : ∀ σ, PassesAt CX X σ (E σ))
    (ht : eval (.Call (.Attribute o m apos) [] [] pos) X.env = (do
      let ov ← eval o X.env; standAt apos.atName; let (f, first) ← holding [ov] (getMethod ov m pl); callWith pos f first (backTo pos (starEach [] X.env)) (backToKw pos (keywordEach [] X.env))) := by rfl) :
    PE X (.Call (.Attribute o m apos) [] [] pos) (tMethS C m sp E ta tNil) := by
  obtain ⟨f, fd, ps, F, hm, hb⟩ := G
  refine ⟨fun pins s σ H Q I h => PySem.W.methodCall_KW (pl := pl) (thn (ho.run pins s σ H _ I h) fun u s1 ⟨y, H1, I1, ry, a, dx, fs, ey, ea, l, q⟩ => ?_) ht⟩
  subst ey
  cases (show u = Value.ref a from ry)
  exact getmeth_ok I1 ea c hm l (PySem.W.callWith_K0 (first := [.ref a]) I1.kIn hm.kp (run_fnS (us := [.ref a]) (vs := [.ref a]) F hr hb (hx σ) I1 (.cons rfl .nil) q))
/-- C(e, ..), what is raised wished for at the caller's slots -/
def tMakeS (C : Addr) (sp : Sp) (E : L2.St → XK) (t : TA) : TE := fun σ H Q => t σ H fun vs H1 => ∀ x dx, H1 x = none → H1 dx = none → dx ≠ x →
  sp (.ref x :: vs) (upd (upd H1 dx (.own x)) x (.ins C dx [])) (fun v H2 => v = .non ∧ Q (.ref x) H2) (E σ)
theorem run_mkS {pins : List (Addr × Obj)} {σ : L2.St} {H : Hp} {s : Shared} {Q : VK} {us : List Value} {vs : List V} {f : Addr} {fd : FuncData} {ps : List Str} (M : Mk X.K C f) (F : FnOk X.prog X.w X.K X.mg X.base CX k f fd ps sp)
    (hr : Room (k + 1) X.A) (hb : Binds X.K fd ps []) (hx : PassesAt CX X σ (E σ)) (I : Inv X pins σ H s) (r : Vals vs us)
    (h : ∀ x dx, H x = none → H dx = none → dx ≠ x → sp (.ref x :: vs) (upd (upd H dx (.own x)) x (.ins C dx [])) (fun v H2 => v = .non ∧ Q (.ref x) H2) (E σ)) :
    wpAny (model X.prog X.w) X.A (call (.ref C) us) (EP X pins σ Q) X.xe s := by
  have z := h (s.heap.objs.size + 1) s.heap.objs.size (I.hok.fresh (Nat.le_succ _)) (I.hok.fresh (Nat.le_refl _)) (Nat.ne_of_lt (Nat.lt_succ_self _))
  have J := Inv.made (C := C) I
  have rr : Vals (V.ref (s.heap.objs.size + 1) :: vs) (Value.ref (s.heap.objs.size + 1) :: us) := .cons rfl r
  have len : (Value.ref (s.heap.objs.size + 1) :: us).length = ps.length := rr.length.symm.trans (F.len _ _ _ _ z)
  have b := hb _ (Value.ref (s.heap.objs.size + 1) :: us) J.kIn (by rw [List.append_nil]; exact len)
  rw [List.append_nil] at b
  refine wpAny_call (make_map (f := f) I.kIn M.makes M.init (beq_iff_eq.mp M.fn) (codeAny_mono (F.run _ X.stack _ _ _ _ _ _ _ (hr.make C us []) (J.env0.make C us []) b rr z) fun res s' hq => ?_))
  cases res with
  | error e => exact hx pins _ _ e s' J hq
  | ok fl =>
    cases fl with
    | ret u =>
      obtain ⟨v, H', I3, rv, ev, q3⟩ := J.after hq
      subst ev
      exact ⟨rv, V.ref (s.heap.objs.size + 1), H', I3, rfl, q3⟩
    | next => cases hq
    | brk => cases hq
    | cont => cases hq
theorem pe_gc (G : GC X.prog X.w X.K X.mg X.base CX k x C sp) (hr : Room (k + 1) X.A) (hx : ∀ σ, PassesAt CX X σ (E σ)) (ha : PA X (e :: es) t) (hg : Gl X x := by rfl)
    (hdb : (x == ("__debug__" : Str)) = false := by decide) (he : starEach (e :: es) X.env = (false, eval e X.env) :: starEach es X.env := by rfl) (hpl : (backTo pos (starEach es X.env)).any (·.1) = false := by rfl) :
    PE X (.Call (.Name x p) (e :: es) [] pos) (tMakeS C sp E t) := by
  obtain ⟨f, fd, ps, F, M, hm, hb⟩ := G
  refine ⟨fun pins s σ H Q I h => wpAny_Call_Name_kw (ld_glob I hg hm ?_ hdb)⟩
  exact PySem.W.callWith_K (h₀ := X.base) I.ok.mod.kin M.kp (thn (ha.run pos pins s σ H _ I h) fun us s1 ⟨vs, H1, I1, r, q⟩ => ⟨I1.kIn, run_mkS M F hr hb (hx σ) I1 r q⟩) he hpl
theorem pe_gc0 (G : GC X.prog X.w X.K X.mg X.base CX k x C sp) (hr : Room (k + 1) X.A) (hx : ∀ σ, PassesAt CX X σ (E σ)) (hg : Gl X x := by rfl)
    (hdb : (x == ("__debug__" : Str)) = false := by decide) : PE X (.Call (.Name x p) [] [] pos) (tMakeS C sp E tNil) := by
  obtain ⟨f, fd, ps, F, M, hm, hb⟩ := G
  refine ⟨fun pins s σ H Q I h => wpAny_Call_Name_kw (ld_glob I hg hm ?_ hdb)⟩
  exact PySem.W.callWith_K0 I.kIn M.kp (run_mkS (us := []) M F hr hb (hx σ) I .nil h)
end

/-! ### heaps: what a step keeps -/
/-- what never changes -/
def Fix : HO → Prop
  | .tup _ => True
  | .frz _ _ => True
  | _ => False
/-- all that was tracked is as it was, but at F (where what never changes is kept too) -/
def Kp (F : Addr → Prop) (H H' : Hp) : Prop := ∀ b o, H b = some o → (F b → Fix o) → H' b = some o
abbrev F0 : Addr → Prop := fun _ => False
abbrev F1 (a : Addr) : Addr → Prop := fun b => b = a
theorem Kp.refl {F : Addr → Prop} (H : Hp) : Kp F H H := fun _ _ h _ => h
theorem Kp.get {F : Addr → Prop} {H H' : Hp} {b : Addr} {o : HO} (s : Kp F H H') (h : H b = some o) (n : ¬ F b) : H' b = some o := s b o h fun z => (n z).elim
theorem Kp.fix {F : Addr → Prop} {H H' : Hp} {b : Addr} {o : HO} (s : Kp F H H') (h : H b = some o) (n : Fix o) : H' b = some o := s b o h fun _ => n
theorem Kp.tup {F : Addr → Prop} {H H' : Hp} {b : Addr} {xs : List V} (s : Kp F H H') (h : H b = some (.tup xs)) : H' b = some (.tup xs) := s.fix h trivial
theorem Kp.free {F : Addr → Prop} {H H' : Hp} {b : Addr} (s : Kp F H H') (h : H' b = none) (n : ¬ F b) : H b = none := by
  cases e : H b with
  | none => rfl
  | some o => rw [s.get e n] at h; cases h
theorem Kp.mono {F G : Addr → Prop} {H H' : Hp} (s : Kp F H H') (h : ∀ b, F b → G b ∨ H b = none) : Kp G H H' := fun b o e n => s b o e fun f => by
  rcases h b f with g | g
  · exact n g
  · rw [e] at g; cases g
theorem Kp.trans {F G : Addr → Prop} {H H1 H2 : Hp} (s : Kp F H H1) (t : Kp G H1 H2) (h : ∀ b, G b → F b ∨ H b = none) : Kp F H H2 := fun b o e n =>
  t b o (s b o e n) fun g => by
    rcases h b g with f | f
    · exact n f
    · rw [e] at f; cases f
theorem Kp.new {H : Hp} {p : Addr} {o : HO} (h : H p = none) : Kp F0 H (upd H p o) := fun b u e _ => by
  rw [upd_ne (ne_of_none e h)]
  exact e
theorem Kp.put {H : Hp} {l : Addr} {o u : HO} (h : H l = some u) (n : ¬ Fix u) : Kp (F1 l) H (upd H l o) := fun b v e k => by
  have nb : b ≠ l := fun z => by
    subst z; rw [h] at e; cases e
    exact n (k rfl)
  rw [upd_ne nb]
  exact e
theorem upd_id {H : Hp} {a : Addr} {o : HO} (h : H a = some o) : upd H a o = H := by
  funext b; unfold upd
  by_cases e : b = a
  · rw [if_pos e, e, h]
  · rw [if_neg e]
theorem Kp.same {H H' : Hp} (s : Same H H') : Kp F0 H H' := fun b o e _ => s b o e
theorem Kp.to_same {H H' : Hp} (s : Kp F0 H H') : Same H H' := fun b o e => s b o e fun z => z.elim
theorem Kp.sqT {F : Addr → Prop} {K : PySem.W.Frag} {H H' : Hp} {a : Addr} {xs : List V} (s : Kp F H H') (h : SqT K H a xs) : SqT K H' a xs := by
  rcases h with (h | ⟨o, h⟩) | h
  · exact .inl (.inl (s.fix h trivial))
  · exact .inl (.inr ⟨o, s.fix h trivial⟩)
  · exact .inr h
theorem Kp.sqL {F : Addr → Prop} {K : PySem.W.Frag} {H H' : Hp} {a : Addr} {xs : List V} (s : Kp F H H') (h : SqL K H a xs) (n : ¬ F a) : SqL K H' a xs := by
  rcases h with (h | ⟨o, h⟩) | h
  · exact .inl (.inl (s.get h n))
  · exact .inl (.inr ⟨o, s.fix h trivial⟩)
  · exact .inr h

/-- the script: read, never written -/
def Sc (K : PySem.W.Frag) (H : Hp) (sc : Addr) (ns : List Int) : Prop := (∃ o, H sc = some (.frz o (.lst (ns.map V.int)))) ∨ ∀ H', SqL K H' sc (ns.map V.int)
theorem Sc.sq {K : PySem.W.Frag} {H : Hp} {sc : Addr} {ns : List Int} (h : Sc K H sc ns) : SqL K H sc (ns.map V.int) := by
  rcases h with ⟨o, h⟩ | h
  · exact .inl (.inr ⟨o, h⟩)
  · exact h H
theorem Sc.kp {K : PySem.W.Frag} {F : Addr → Prop} {H H' : Hp} {sc : Addr} {ns : List Int} (s : Kp F H H') (h : Sc K H sc ns) : Sc K H' sc ns := by
  rcases h with ⟨o, h⟩ | h
  · exact .inl ⟨o, s.fix h trivial⟩
  · exact .inr h

theorem Sc.of {K : PySem.W.Frag} {H : Hp} {a : Addr} {ns : List Int} (o : Only H) (h : SqL K H a (ns.map V.int)) : Sc K H a ns := by
  rcases h with (h | ⟨f, h⟩) | h
  · rcases o a with e | ⟨f, xs, e⟩
    · rw [h] at e; cases e
    · rw [h] at e; cases e
  · exact .inl ⟨f, h⟩
  · exact .inr fun _ => .inr h
/-- a new list, a new tuple -/
def rNewL (xs : List V) (H : Hp) (Q : VK) : Prop := xs.length ≤ sizeLine ∧ ∀ p, H p = none → Q (.ref p) (upd H p (.lst xs))
def rNewT (xs : List V) (H : Hp) (Q : VK) : Prop := xs.length ≤ sizeLine ∧ ∀ p, H p = none → Q (.ref p) (upd H p (.tup xs))

/-! ### readings under names of our own, and the steps that run them -/
section
variable {K : PySem.W.Frag} {σ : L2.St} {H : Hp} {Q : VK} {D : Ends} {ta tb tc te : TE} {t u : TS} {tt tt' : TT} {x y z v : V} {i : Nat} {g : TG} {r r' : R2} {vs : List V} {a p : Addr}
theorem x_seq (h : t { D with nx := u D } σ H) : tSeq t u D σ H := h
theorem x_cut (M : L2.St → Hp → Prop) (h : t { D with nx := M } σ H) (h2 : ∀ σ' H', M σ' H' → u D σ' H') : C8.tCut t u D σ H := ⟨M, h, h2⟩
theorem x_next (h : D.nx σ H) : tNext D σ H := h
theorem x_asg (h : te σ H fun x H1 => g x σ H1 D.nx) : tAsg te g D σ H := h
theorem x_drop (h : te σ H fun _ H1 => D.nx σ H1) : tDrop te D σ H := h
theorem x_ret (h : te σ H D.rt) : tRet te D σ H := h
theorem x_retN (h : D.rt .non H) : tRetN D σ H := h
theorem x_ifS (h : tt σ H fun b H1 => if b = true then t D σ H1 else u D σ H1) : tIfS tt t u D σ H := h
theorem x_var (e : σ[i]? = some (some v)) (h : Q v H) : tVar i σ H Q := ⟨v, e, h⟩
theorem x_c (h : Q v H) : tC v σ H Q := h
theorem x_op (h : ta σ H fun x H1 => tb σ H1 fun y H2 => r x y H2 Q) : tOp r ta tb σ H Q := h
theorem x_un {r : V → Hp → VK → Prop} (h : ta σ H fun x H1 => r x H1 Q) : tUn r ta σ H Q := h
theorem x_neg {f : Int → V} {m : Int} (h : Q (f m) H) : rU f (.int m) H Q := ⟨m, rfl, h⟩
theorem x_I0 {f : Int → Int → V} {m n : Int} (h : Q (f m n) H) : rI0 f (.int m) (.int n) H Q := ⟨m, n, rfl, rfl, h⟩
theorem x_I {C : Int → Int → Prop} {f : Int → Int → V} {m n : Int} (c : C m n) (h : Q (f m n) H) : rI C f (.int m) (.int n) H Q := ⟨m, n, rfl, rfl, c, h⟩
theorem x_eqI {m n : Int} (h : Q (.bl (decide (m = n))) H) : rEq (.int m) (.int n) H Q := ⟨rfl, by rw [show decide (V.int m = V.int n) = decide (m = n) by simp]; exact h⟩
theorem x_neI {m n : Int} (h : Q (.bl (!decide (m = n))) H) : rNe (.int m) (.int n) H Q := ⟨rfl, by rw [show decide (V.int m = V.int n) = decide (m = n) by simp]; exact h⟩
theorem x_eqS {m n : Str} (h : Q (.bl (decide (m = n))) H) : rEq (.str m) (.str n) H Q := ⟨rfl, by rw [show decide (V.str m = V.str n) = decide (m = n) by simp]; exact h⟩
theorem x_neS {m n : Str} (h : Q (.bl (!decide (m = n))) H) : rNe (.str m) (.str n) H Q := ⟨rfl, by rw [show decide (V.str m = V.str n) = decide (m = n) by simp]; exact h⟩
theorem x_eqB {m n : Bool} (h : Q (.bl (decide (m = n))) H) : rEq (.bl m) (.bl n) H Q := ⟨rfl, by rw [show decide (V.bl m = V.bl n) = decide (m = n) by simp]; exact h⟩
theorem x_neB {m n : Bool} (h : Q (.bl (!decide (m = n))) H) : rNe (.bl m) (.bl n) H Q := ⟨rfl, by rw [show decide (V.bl m = V.bl n) = decide (m = n) by simp]; exact h⟩
theorem x_tst {R : Bool → Hp → Prop} (h : te σ H fun x H1 => ∃ k, x = .bl k ∧ R k H1) : tTest te σ H R := h
theorem x_tB {R : Bool → Hp → Prop} (h : te σ H fun x H1 => ∃ k, x = .bl k ∧ R k H1) : tB te σ H R := h
theorem x_bl {b : Bool} {R : Bool → Prop} (h : R b) : ∃ k, V.bl b = .bl k ∧ R k := ⟨b, rfl, h⟩
theorem x_ifNT {A B : Prop} (h : B) : if (!true) = true then A else B := h
theorem x_ifNF {A B : Prop} (h : A) : if (!false) = true then A else B := h
theorem x_yes {R : Bool → Hp → Prop} (h : R true H) : tYes σ H R := h
theorem x_ifTT {A B : Prop} (h : A) : if true = true then A else B := by rw [if_pos rfl]; exact h
theorem x_ifFF {A B : Prop} (h : B) : if false = true then A else B := by rw [if_neg Bool.false_ne_true]; exact h
theorem x_bnot {b : Bool} {R : Bool → Prop} (h : R (!b)) : ∃ k, V.bl (!b) = .bl k ∧ R k := ⟨_, rfl, h⟩
theorem x_and {R : Bool → Hp → Prop} (h : tt σ H fun c H1 => if c = true then tt' σ H1 R else R false H1) : tAnd tt tt' σ H R := h
theorem x_or {R : Bool → Hp → Prop} (h : tt σ H fun c H1 => if c = true then R true H1 else tt' σ H1 R) : tOr tt tt' σ H R := h
theorem x_not {R : Bool → Hp → Prop} (h : tt σ H fun c H1 => R (!c) H1) : tNot tt σ H R := h
theorem x_andV (h : ta σ H fun x H1 => ∃ c, x = .bl c ∧ if c = true then tb σ H1 Q else Q (.bl false) H1) : tAndV ta tb σ H Q := h
theorem x_orV (h : ta σ H fun x H1 => ∃ c, x = .bl c ∧ if c = true then Q (.bl true) H1 else tb σ H1 Q) : tOrV ta tb σ H Q := h
theorem x_notV (h : ta σ H fun x H1 => ∃ c, x = .bl c ∧ Q (.bl (!c)) H1) : tNotV ta σ H Q := h
theorem x_ifE (h : tt σ H fun c H1 => if c = true then ta σ H1 Q else tb σ H1 Q) : tIf tt ta tb σ H Q := h
theorem x_ch (h : ta σ H fun x H1 => tb σ H1 fun y H2 => r x y H2 fun z H3 => ∃ k, z = .bl k ∧ (if k = true then tc σ H3 fun w' H4 => r' y w' H4 Q else Q (.bl false) H3)) : tChain r r' ta tb tc σ H Q := h
theorem x_nil {R : List V → Hp → Prop} (h : R [] H) : tNil σ H R := h
theorem x_cons {tr : TA} {R : List V → Hp → Prop} (h : ta σ H fun x H1 => tr σ H1 fun xs H2 => R (x :: xs) H2) : tCons ta tr σ H R := h
theorem x_tup {ts : TA} (h : ts σ H fun xs H1 => rNewT xs H1 Q) : tTup ts σ H Q := h
theorem x_lst {ts : TA} (h : ts σ H fun xs H1 => rNewL xs H1 Q) : tLst ts σ H Q := h
theorem x_newL {xs : List V} (h : ∀ p H1, H p = none → Kp F0 H H1 → H1 p = some (.lst xs) → Q (.ref p) H1) (h1 : Nat.ble xs.length 1000 = true := by rfl) : rNewL xs H Q := ⟨Nat.le_trans (Nat.le_of_ble_eq_true h1) (by decide), fun p hp => h p _ hp (Kp.new hp) upd_same⟩
theorem x_newT {xs : List V} (h : ∀ p H1, H p = none → Kp F0 H H1 → H1 p = some (.tup xs) → Q (.ref p) H1) (h1 : Nat.ble xs.length 1000 = true := by rfl) : rNewT xs H Q := ⟨Nat.le_trans (Nat.le_of_ble_eq_true h1) (by decide), fun p hp => h p _ hp (Kp.new hp) upd_same⟩
theorem x_cb {rr : List V → Hp → VK → Prop} {ts : TA} (h : ts σ H fun vs H1 => rr vs H1 Q) : tCB rr ts σ H Q := h
theorem x_callS {sp : Sp} {E : L2.St → XK} {ts : TA} (h : ts σ H fun vs H1 => sp vs H1 Q (E σ)) : tCallS sp E ts σ H Q := h
theorem x_gn {R : L2.St → Hp → Prop} (h : R (σ.set i (some v)) H) : gName i v σ H R := h
/-- a[i], o[i] = v -/
theorem x_ixL {xs : List V} {j : Int} (h : SqL K H p xs) (e : atI xs j = some v) (q : Q v H) : rIxL K (.ref p) (.int j) H Q := ⟨p, xs, j, v, rfl, rfl, h, e, q⟩
theorem x_ixT {xs : List V} {j : Int} (h : SqT K H p xs) (e : atI xs j = some v) (q : Q v H) : rIxT K (.ref p) (.int j) H Q := ⟨p, xs, j, v, rfl, rfl, h, e, q⟩
theorem x_sub {R : L2.St → Hp → Prop} {s : TSet} (h : ta σ H fun o H1 => tb σ H1 fun i H2 => s o i v H2 fun H3 => R σ H3) : gSub ta tb s v σ H R := h
theorem x_setL {xs : List V} {k : Int} {j : Nat} {R : Hp → Prop} (h : H p = some (.lst xs)) (e : ixN xs.length k = some j) (q : R (upd H p (.lst (xs.set j v)))) : rSetL (.ref p) (.int k) v H R := ⟨p, xs, k, j, rfl, rfl, h, e, q⟩
end
/-- len(xs) -/
def rLenQ (K : PySem.W.Frag) : List V → Hp → VK → Prop := fun xs H Q => ∃ p ys, xs = [.ref p] ∧ (SqL K H p ys ∨ SqT K H p ys) ∧ Q (.int ys.length) H
theorem c_len {X : Cx} : CallR X (.builtin "len") (rLenQ X.K) := call_len_seq
theorem x_lenL {K : PySem.W.Frag} {H : Hp} {Q : VK} {p : Addr} {ys : List V} (h : SqL K H p ys) (q : Q (.int ys.length) H) : rLenQ K [.ref p] H Q := ⟨p, ys, rfl, .inl h, q⟩
theorem x_lenT {K : PySem.W.Frag} {H : Hp} {Q : VK} {p : Addr} {ys : List V} (h : SqT K H p ys) (q : Q (.int ys.length) H) : rLenQ K [.ref p] H Q := ⟨p, ys, rfl, .inr h, q⟩
/-- int(n), int(flag) -/
def rIntQ : List V → Hp → VK → Prop := fun xs H Q => (∃ i, xs = [.int i] ∧ Q (.int i) H) ∨ ∃ k, xs = [.bl k] ∧ Q (.int (if k then 1 else 0)) H
theorem c_int {X : Cx} : CallR X (.type "int") rIntQ := call_int1
theorem x_intI {H : Hp} {Q : VK} {i : Int} (q : Q (.int i) H) : rIntQ [.int i] H Q := .inl ⟨i, rfl, q⟩
theorem x_intB {H : Hp} {Q : VK} {k : Bool} (q : Q (.int (if k then 1 else 0)) H) : rIntQ [.bl k] H Q := .inr ⟨k, rfl, q⟩
theorem ite_dec {p : Prop} [Decidable p] {A B : Prop} (h1 : p → A) (h2 : ¬ p → B) : if decide p = true then A else B := by
  by_cases h : p
  · rw [if_pos (decide_eq_true h)]; exact h1 h
  · rw [if_neg (by simpa using h)]; exact h2 h
theorem ite_ndec {p : Prop} [Decidable p] {A B : Prop} (h1 : ¬ p → A) (h2 : p → B) : if (!decide p) = true then A else B := by
  by_cases h : p
  · rw [if_neg (by simp [h])]; exact h2 h
  · rw [if_pos (by simp [h])]; exact h1 h
theorem ite_bool {b : Bool} {A B : Prop} (h1 : b = true → A) (h2 : b = false → B) : if b = true then A else B := by
  cases b
  · rw [if_neg Bool.false_ne_true]; exact h2 rfl
  · rw [if_pos rfl]; exact h1 rfl
/-- an item by its place -/
theorem atI_at {α : Type} {xs : List α} {j : Int} {v : α} (k : Nat) (e : j = (k : Int)) (h : xs[k]? = some v) : atI xs j = some v := by subst e; exact atI_nat h
theorem ixN_at {n : Nat} {j : Int} (k : Nat) (e : j = (k : Int)) (h : k < n) : ixN n j = some k := by
  subst e; unfold ixN
  rw [if_pos (by omega), if_pos (by omega)]; rfl
theorem fdiv_ok {a n : Int} (h0 : 0 < n) (h1 : n < 2 ^ 64) : CDivW a n := wide_div (b := 64) h0 (by omega) (by decide) (by decide)

/-! ### loops -/
/-- J walks xs while G holds -/
structure Wk (J : It) (G : Hp → Prop) (xs : List V) : Prop where
  go : ∀ i H, i < xs.length → G H → J.go i H
  yld : ∀ i H x H', i < xs.length → G H → J.yld i H x H' → H = H' ∧ xs[i]? = some x
  stop : ∀ H, G H → J.stop xs.length H
theorem Wk.list {K : PySem.W.Frag} {a : Addr} {xs : List V} : Wk (Itl K a) (fun H => SqL K H a xs) xs where
  go := fun i H h g => ⟨xs, xs[i], g, by simp [h]⟩
  yld := fun i H x H' _ g y => ⟨y.1.symm, y.2 xs g⟩
  stop := fun H g => ⟨xs, g, Nat.le_refl _⟩
theorem Wk.tup {K : PySem.W.Frag} {a : Addr} {xs : List V} : Wk (Itt K a) (fun H => SqT K H a xs) xs where
  go := fun i H h g => ⟨xs, xs[i], g, by simp [h]⟩
  yld := fun i H x H' _ g y => ⟨y.1.symm, y.2 xs g⟩
  stop := fun H g => ⟨xs, g, Nat.le_refl _⟩
def rgl (lo : Int) (n : Nat) : List V := (List.range n).map fun i => V.int (lo + (i : Nat))
theorem rgl_len {lo : Int} {n : Nat} : (rgl lo n).length = n := by unfold rgl; simp
theorem rgl_at {lo : Int} {n i : Nat} {x : V} (h : (rgl lo n)[i]? = some x) : i < n ∧ x = .int (lo + (i : Nat)) := by
  unfold rgl at h
  rw [List.getElem?_map] at h
  by_cases hi : i < n
  · rw [List.getElem?_range hi] at h
    exact ⟨hi, (Option.some.inj h).symm⟩
  · rw [List.getElem?_eq_none (by simpa using hi)] at h
    cases h
theorem Wk.rng {lo : Int} {n : Nat} : Wk (Itr lo n) (fun _ => True) (rgl lo n) where
  go := fun i H h _ => by rw [rgl_len] at h; exact h
  yld := fun i H x H' h _ y => by
    rw [rgl_len] at h
    refine ⟨y.1.symm, ?_⟩
    unfold rgl
    rw [List.getElem?_map, List.getElem?_range h, y.2]; rfl
  stop := fun H _ => by show n ≤ _; rw [rgl_len]; exact Nat.le_refl _
theorem wfor {J : It} {G : Hp → Prop} {xs : List V} {g : TG} {tb : TS} {D : Ends} {σ : L2.St} {H : Hp} (W : Wk J G xs) (Pv : Nat → L2.St → Hp → Prop) (h0 : Pv 0 σ H) (hG : ∀ i σ H, Pv i σ H → G H)
    (hs : ∀ i x σ H, xs[i]? = some x → Pv i σ H → g x σ H fun σ2 H2 => tb { D with nx := Pv (i + 1), ct := Pv (i + 1), bk := D.nx } σ2 H2) (hd : ∀ σ H, Pv xs.length σ H → D.nx σ H) :
    ∃ W : Nat → Nat → L2.St → Hp → Prop, (∃ m, W 0 m σ H) ∧ ∀ i m σ H, W i m σ H →
      (J.stop i H ∧ D.nx σ H) ∨ (J.go i H ∧ ∃ N : L2.St → Hp → Prop, (∀ σ' H', N σ' H' → ∃ m', m' < m ∧ W (i + 1) m' σ' H') ∧ ∀ x H', J.yld i H x H' → g x σ H' fun σ2 H2 => tb { D with nx := N, ct := N, bk := D.nx } σ2 H2) := by
  refine ⟨fun i m σ H => m = xs.length - i ∧ i ≤ xs.length ∧ Pv i σ H, ⟨_, rfl, Nat.zero_le _, h0⟩, ?_⟩
  rintro i m σ H ⟨rfl, hi, p⟩
  by_cases hlt : i < xs.length
  · refine .inr ⟨W.go i H hlt (hG _ _ _ p), Pv (i + 1), fun σ' H' p' => ⟨xs.length - (i + 1), by omega, rfl, hlt, p'⟩, fun x H' y => ?_⟩
    obtain ⟨rfl, e⟩ := W.yld i H x H' hlt (hG _ _ _ p) y
    exact hs i x σ _ e p
  · obtain rfl : i = xs.length := by omega
    exact .inl ⟨W.stop H (hG _ _ _ p), hd σ H p⟩
/-- a comprehension: F what its turns may change, S what stays true of the heap, Pv of the list so far -/
theorem wlc {J : It} {G : Hp → Prop} {xs : List V} {g : TG} {tt : TT} {te : TE} {vs : List Nat} {σ : L2.St} {H0 : Hp} {Qd : Addr → Hp → Prop} (W : Wk J G xs) (F : Addr → Prop) (S : Hp → Prop) (Pv : Nat → List V → Prop)
    (hF : ∀ b, F b → H0 b ≠ none) (hz : xs.length ≤ 100000) (hG : ∀ H', S H' → Kp F H0 H' → G H') (h0 : Pv 0 []) (hS : S H0) (hSt : ∀ D, H0 D = none → ∀ H' o, (∀ u, H' D = some u → ¬ Fix u) → S H' → S (upd H' D o))
    (hs : ∀ i x acc H' (R : V → Hp → Prop) (R0 : Hp → Prop), xs[i]? = some x → Pv i acc → S H' → Kp F H0 H' → (∀ y H4, Kp F H' H4 → S H4 → Pv (i + 1) (acc ++ [y]) → R y H4) → (∀ H4, Kp F H' H4 → S H4 → Pv (i + 1) acc → R0 H4) →
      g x (wipe σ vs) H' fun σ2 H2 => wipe σ2 vs = wipe σ vs ∧ tt σ2 H2 fun b H3 => if b = true then te σ2 H3 R else R0 H3)
    (hd : ∀ D H' acc, H0 D = none → H' D = some (.lst acc) → Pv xs.length acc → S H' → Kp F H0 H' → Qd D H') :
    ∀ D, H0 D = none → ∃ W : Nat → Nat → Hp → Prop, (∃ m, W 0 m (upd H0 D (.lst []))) ∧ ∀ i m H, W i m H →
      (J.stop i H ∧ Qd D H) ∨ (J.go i H ∧ ∃ Nx : Hp → Prop, (∀ H', Nx H' → ∃ m', m' < m ∧ W (i + 1) m' H') ∧ ∀ x H', J.yld i H x H' → g x (wipe σ vs) H' fun σ2 H2 => wipe σ2 vs = wipe σ vs ∧ tt σ2 H2 fun b H3 =>
        if b = true then te σ2 H3 fun y H4 => ∃ acc, H4 D = some (.lst acc) ∧ acc.length < sizeLine ∧ Nx (upd H4 D (.lst (acc ++ [y]))) else Nx H3) := by
  intro D hD
  have nFD : ¬ F D := fun z => hF D z hD
  refine ⟨fun i m H' => m = xs.length - i ∧ i ≤ xs.length ∧ ∃ acc, H' D = some (.lst acc) ∧ acc.length ≤ i ∧ Pv i acc ∧ S H' ∧ Kp F H0 H',
    ⟨_, rfl, Nat.zero_le _, [], upd_same, Nat.le_refl _, h0, hSt D hD _ _ (fun u z => by rw [hD] at z; cases z) hS, (Kp.new hD).mono fun b z => z.elim⟩, ?_⟩
  rintro i m H ⟨rfl, hi, acc, hacc, hl, p, hSH, kp⟩
  by_cases hlt : i < xs.length
  · refine .inr ⟨W.go i H hlt (hG _ hSH kp), _, fun H' z => ⟨xs.length - (i + 1), by omega, z⟩, fun x H' y => ?_⟩
    obtain ⟨rfl, e⟩ := W.yld i H x H' hlt (hG _ hSH kp) y
    refine hs i x acc _ _ _ e p hSH kp (fun y H4 k4 s4 p4 => ?_) (fun H4 k4 s4 p4 => ?_)
    · refine ⟨acc, k4.get hacc nFD, Nat.lt_of_le_of_lt (Nat.le_trans hl (Nat.le_trans hi hz)) (by decide), rfl, hlt, acc ++ [y], upd_same, by rw [List.length_append, List.length_singleton]; omega, p4, hSt D hD _ _ (fun u z => by rw [k4.get hacc nFD] at z; cases z; exact id) s4, ?_⟩
      intro b o hb n
      rw [upd_ne (ne_of_none hb hD)]
      exact k4 b o (kp b o hb n) n
    · exact ⟨rfl, hlt, acc, k4.get hacc nFD, by omega, p4, s4, fun b o hb n => k4 b o (kp b o hb n) n⟩
  · obtain rfl : i = xs.length := by omega
    exact .inl ⟨W.stop H (hG _ hSH kp), hd D H acc hD hacc p hSH kp⟩
/-- a comprehension that changes nothing and keeps all: the list ys comes -/
theorem wlcP {J : It} {G : Hp → Prop} {xs ys : List V} {g : TG} {te : TE} {vs : List Nat} {σ : L2.St} {H0 : Hp} {Qd : Addr → Hp → Prop} (W : Wk J G xs) (hl : ys.length = xs.length) (hz : xs.length ≤ 100000) (hG : ∀ H', Kp F0 H0 H' → G H')
    (hs : ∀ (i : Nat) x y H' (R : V → Hp → Prop), xs[i]? = some x → ys[i]? = some y → Kp F0 H0 H' → (∀ H4, Kp F0 H' H4 → R y H4) → g x (wipe σ vs) H' fun σ2 H2 => wipe σ2 vs = wipe σ vs ∧ te σ2 H2 R)
    (hd : ∀ D H', H0 D = none → Kp F0 H0 H' → H' D = some (.lst ys) → Qd D H') :
    ∀ D, H0 D = none → ∃ W : Nat → Nat → Hp → Prop, (∃ m, W 0 m (upd H0 D (.lst []))) ∧ ∀ i m H, W i m H →
      (J.stop i H ∧ Qd D H) ∨ (J.go i H ∧ ∃ Nx : Hp → Prop, (∀ H', Nx H' → ∃ m', m' < m ∧ W (i + 1) m' H') ∧ ∀ x H', J.yld i H x H' → g x (wipe σ vs) H' fun σ2 H2 => wipe σ2 vs = wipe σ vs ∧ tYes σ2 H2 fun b H3 =>
        if b = true then te σ2 H3 fun y H4 => ∃ acc, H4 D = some (.lst acc) ∧ acc.length < sizeLine ∧ Nx (upd H4 D (.lst (acc ++ [y]))) else Nx H3) := by
  refine wlc W F0 (fun _ => True) (fun i acc => acc = ys.take i) (fun b z => z.elim) hz (fun H' _ k => hG H' k) rfl trivial (fun _ _ _ _ _ _ => trivial) (fun i x acc H' R R0 e p _ kp h1 _ => ?_) (fun D H' acc hD hacc p _ kp => hd D H' hD kp (by rw [hacc, p, ← hl, List.take_length]))
  have hi : i < ys.length := by rw [hl]; exact (List.getElem?_eq_some_iff.mp e).1
  refine hs i x ys[i] H' R e (by simp [hi]) kp fun H4 k4 => h1 _ _ k4 trivial ?_
  rw [p, List.take_succ, List.getElem?_eq_getElem hi]; rfl

section
variable {K : PySem.W.Frag} {σ : L2.St} {H : Hp} {Q : VK} {D : Ends} {ta tb tc te : TE} {t u : TS} {tt tt' : TT} {x y z v : V} {i : Nat} {g : TG} {a p : Addr} {wi : TI} {ts : TA} {R : It → Hp → Prop}
theorem x_for (h : wi σ H fun J H1 => ∃ W : Nat → Nat → L2.St → Hp → Prop, (∃ m, W 0 m σ H1) ∧ ∀ i m σ H, W i m σ H →
    (J.stop i H ∧ D.nx σ H) ∨ (J.go i H ∧ ∃ N : L2.St → Hp → Prop, (∀ σ' H', N σ' H' → ∃ m', m' < m ∧ W (i + 1) m' σ' H') ∧ ∀ x H', J.yld i H x H' → g x σ H' fun σ2 H2 => t { D with nx := N, ct := N, bk := D.nx } σ2 H2)) : tFor wi g t D σ H := h
theorem x_lc {vs : List Nat} (h : wi σ H fun J H1 => ∀ D, H1 D = none → ∃ W : Nat → Nat → Hp → Prop, (∃ m, W 0 m (upd H1 D (.lst []))) ∧ ∀ i m H, W i m H →
    (J.stop i H ∧ Q (.ref D) H) ∨ (J.go i H ∧ ∃ Nx : Hp → Prop, (∀ H', Nx H' → ∃ m', m' < m ∧ W (i + 1) m' H') ∧ ∀ x H', J.yld i H x H' → g x (wipe σ vs) H' fun σ2 H2 => wipe σ2 vs = wipe σ vs ∧ tt σ2 H2 fun b H3 =>
      if b = true then te σ2 H3 fun y H4 => ∃ acc, H4 D = some (.lst acc) ∧ acc.length < sizeLine ∧ Nx (upd H4 D (.lst (acc ++ [y]))) else Nx H3)) : tLc wi g tt te vs σ H Q := h
theorem x_rng1 (h : ts σ H fun vs H1 => ∃ j : Int, vs = [.int j] ∧ -(2 ^ 62) ≤ j ∧ j < 2 ^ 62 ∧ R (Itr 0 j.toNat) H1) : iRng1 ts σ H R := h
theorem x_rg1 {S : Int → Prop} {n : Int} (h1 : -(2 ^ 62) ≤ n) (h2 : n < 2 ^ 62) (h : S n) : ∃ j : Int, [V.int n] = [.int j] ∧ -(2 ^ 62) ≤ j ∧ j < 2 ^ 62 ∧ S j := ⟨n, rfl, h1, h2, h⟩
theorem x_rng2 (h : ts σ H fun vs H1 => ∃ i j : Int, vs = [.int i, .int j] ∧ (-(2 ^ 62) ≤ i ∧ i < 2 ^ 62 ∧ -(2 ^ 62) ≤ j ∧ j < 2 ^ 62) ∧ R (Itr i (j - i).toNat) H1) : iRng2 ts σ H R := h
theorem x_rg2 {S : Int → Int → Prop} {m n : Int} (h1 : -(2 ^ 62) ≤ m ∧ m < 2 ^ 62 ∧ -(2 ^ 62) ≤ n ∧ n < 2 ^ 62) (h : S m n) : ∃ i j : Int, [V.int m, V.int n] = [.int i, .int j] ∧ (-(2 ^ 62) ≤ i ∧ i < 2 ^ 62 ∧ -(2 ^ 62) ≤ j ∧ j < 2 ^ 62) ∧ S i j := ⟨m, n, rfl, h1, h⟩
theorem x_iL (h : te σ H fun x H1 => ∃ a, x = .ref a ∧ (∃ xs, SqL K H1 a xs) ∧ R (Itl K a) H1) : iList K te σ H R := h
theorem x_iL1 {xs : List V} {S : Addr → Prop} (h : SqL K H a xs) (q : S a) : ∃ b, V.ref a = .ref b ∧ (∃ xs, SqL K H b xs) ∧ S b := ⟨a, rfl, ⟨xs, h⟩, q⟩
theorem x_iT (h : te σ H fun x H1 => ∃ a, x = .ref a ∧ (∃ xs, SqT K H1 a xs) ∧ R (Itt K a) H1) : iTup K te σ H R := h
theorem x_iT1 {xs : List V} {S : Addr → Prop} (h : SqT K H a xs) (q : S a) : ∃ b, V.ref a = .ref b ∧ (∃ xs, SqT K H b xs) ∧ S b := ⟨a, rfl, ⟨xs, h⟩, q⟩
theorem x_sum {ns : List Int} (h : SqL K H a (ns.map V.int)) (q : Q (.int ns.sum) H) : rSum K [.ref a] H Q := ⟨a, ns, rfl, h, q⟩
theorem x_max {ns : List Int} (h : SqL K H a (ns.map V.int)) (h0 : 0 < ns.length) (q : ∀ m, m ∈ ns → (∀ y, y ∈ ns → y ≤ m) → Q (.int m) H) : rMax K [.ref a] H Q := ⟨a, ns, rfl, h, h0, q⟩
theorem x_min {ns : List Int} (h : SqL K H a (ns.map V.int)) (h0 : 0 < ns.length) (q : ∀ m, m ∈ ns → (∀ y, y ∈ ns → m ≤ y) → Q (.int m) H) : rMin K [.ref a] H Q := ⟨a, ns, rfl, h, h0, q⟩
end
/-- abs, max, min of two -/
def rAbsQ : List V → Hp → VK → Prop := fun xs H Q => ∃ i, xs = [.int i] ∧ Q (.int (if i < 0 then -i else i)) H
theorem c_abs {X : Cx} : CallR X (.builtin "abs") rAbsQ := call_abs
theorem x_abs {H : Hp} {Q : VK} {i : Int} (q : Q (.int (if i < 0 then -i else i)) H) : rAbsQ [.int i] H Q := ⟨i, rfl, q⟩
def rMax2Q : List V → Hp → VK → Prop := fun xs H Q => ∃ i j, xs = [.int i, .int j] ∧ Q (.int (if j > i then j else i)) H
theorem c_max2 {X : Cx} (hc : X.calm = true) : CallR X (.builtin "max") rMax2Q := call_max2 hc
theorem x_max2 {H : Hp} {Q : VK} {i j : Int} (q : Q (.int (max i j)) H) : rMax2Q [.int i, .int j] H Q := ⟨i, j, rfl, by rw [show (if j > i then j else i) = max i j by split <;> omega]; exact q⟩
def rMin2Q : List V → Hp → VK → Prop := fun xs H Q => ∃ i j, xs = [.int i, .int j] ∧ Q (.int (if j < i then j else i)) H
theorem c_min2 {X : Cx} (hc : X.calm = true) : CallR X (.builtin "min") rMin2Q := call_min2 hc
theorem x_min2 {H : Hp} {Q : VK} {i j : Int} (q : Q (.int (min i j)) H) : rMin2Q [.int i, .int j] H Q := ⟨i, j, rfl, by rw [show (if j < i then j else i) = min i j by split <;> omega]; exact q⟩
/-- list(xs), tuple(xs) -/
def rLstQ (K : PySem.W.Frag) : List V → Hp → VK → Prop := fun xs H Q => ∃ p ys, xs = [.ref p] ∧ (SqL K H p ys ∨ SqT K H p ys) ∧ ∀ l, H l = none → Q (.ref l) (upd H l (.lst ys))
theorem c_list {X : Cx} : CallR X (.type "list") (rLstQ X.K) := call_list_of
theorem x_lstL {K : PySem.W.Frag} {H : Hp} {Q : VK} {p : Addr} {ys : List V} (h : SqL K H p ys) (q : ∀ l H1, H l = none → Kp F0 H H1 → H1 l = some (.lst ys) → Q (.ref l) H1) : rLstQ K [.ref p] H Q := ⟨p, ys, rfl, .inl h, fun l hl => q l _ hl (Kp.new hl) upd_same⟩
theorem x_lstT {K : PySem.W.Frag} {H : Hp} {Q : VK} {p : Addr} {ys : List V} (h : SqT K H p ys) (q : ∀ l H1, H l = none → Kp F0 H H1 → H1 l = some (.lst ys) → Q (.ref l) H1) : rLstQ K [.ref p] H Q := ⟨p, ys, rfl, .inr h, fun l hl => q l _ hl (Kp.new hl) upd_same⟩
def rTupQ (K : PySem.W.Frag) : List V → Hp → VK → Prop := fun xs H Q => ∃ p ys, xs = [.ref p] ∧ ((SqL K H p ys ∧ ∀ l, H l = none → Q (.ref l) (upd H l (.tup ys))) ∨ (SqT K H p ys ∧ Q (.ref p) H))
theorem c_tuple {X : Cx} : CallR X (.type "tuple") (rTupQ X.K) := call_tuple_of
theorem x_tupL {K : PySem.W.Frag} {H : Hp} {Q : VK} {p : Addr} {ys : List V} (h : SqL K H p ys) (q : ∀ l H1, H l = none → Kp F0 H H1 → H1 l = some (.tup ys) → Q (.ref l) H1) : rTupQ K [.ref p] H Q := ⟨p, ys, rfl, .inl ⟨h, fun l hl => q l _ hl (Kp.new hl) upd_same⟩⟩
theorem x_tupT {K : PySem.W.Frag} {H : Hp} {Q : VK} {p : Addr} {ys : List V} (h : SqT K H p ys) (q : Q (.ref p) H) : rTupQ K [.ref p] H Q := ⟨p, ys, rfl, .inr ⟨h, q⟩⟩
/-- isinstance of an int -/
theorem x_isi {K : PySem.W.Frag} {H : Hp} {Q : VK} {i : Int} {T : String} {b : Bool} (hk : PySem.W.kitOne K (.type "int") (.type T) = some b) (q : Q (.bl b) H) : rIsi K [.int i, .ty T] H Q := ⟨_, _, _, _, b, rfl, .ty T, .base (.int i), hk, q⟩
theorem x_isiI {K : PySem.W.Frag} {H : Hp} {Q : VK} {i : Int} (q : Q (.bl true) H) : rIsi K [.int i, .ty "int"] H Q := x_isi (kit_ty (by decide +kernel)) q
theorem x_isiB {K : PySem.W.Frag} {H : Hp} {Q : VK} {i : Int} (q : Q (.bl false) H) : rIsi K [.int i, .ty "bool"] H Q := x_isi (kit_ty (by decide +kernel)) q
/-- bytes of a slice: a new list -/
theorem x_sl {σ : L2.St} {H : Hp} {Q : VK} {te : TE} {tl th : TO} {r : V → Option Int → Option Int → Hp → VK → Prop} (h : te σ H fun x H1 => tl σ H1 fun l H2 => th σ H2 fun u H3 => r x l u H3 Q) : L2.tSl r te tl th σ H Q := h
theorem x_part {σ : L2.St} {H : Hp} {Q : Option Int → Hp → Prop} {te : TE} (h : te σ H fun x H1 => ∃ i, x = .int i ∧ Q (some i) H1) : tPart te σ H Q := h
theorem x_part1 {S : Int → Prop} {i : Int} (h : S i) : ∃ j, V.int i = .int j ∧ S j := ⟨i, rfl, h⟩
theorem x_nopart {σ : L2.St} {H : Hp} {Q : Option Int → Hp → Prop} (h : Q none H) : tNoPart σ H Q := h
theorem x_slL {K : PySem.W.Frag} {H : Hp} {Q : VK} {p : Addr} {xs : List V} {lo hi : Option Int} (h : SqL K H p xs) (q : ∀ l H1, H l = none → Kp F0 H H1 → H1 l = some (.lst (cutV xs lo hi)) → Q (.ref l) H1) : rSlL K (.ref p) lo hi H Q := ⟨p, xs, rfl, h, fun l hl => q l _ hl (Kp.new hl) upd_same⟩
theorem x_slT {K : PySem.W.Frag} {H : Hp} {Q : VK} {p : Addr} {xs : List V} {lo hi : Option Int} (h : SqT K H p xs) (q : ∀ l H1, Kp F0 H H1 → SqT K H1 l (cutV xs lo hi) → Q (.ref l) H1) : rSlA K (.ref p) lo hi H Q :=
  ⟨p, xs, rfl, h, fun e => q p H (Kp.refl _) (by rw [show cutV xs lo hi = xs by unfold cutV; rw [e.1, e.2]; simp]; exact h), fun _ l hl => q l _ (Kp.new hl) (SqT.of upd_same)⟩
theorem x_catT {K : PySem.W.Frag} {H : Hp} {Q : VK} {a b : Addr} {xs ys : List V} (ha : SqT K H a xs) (hb : SqT K H b ys) (hz : xs.length + ys.length ≤ 100000) (q : ∀ l H1, Kp F0 H H1 → SqT K H1 l (xs ++ ys) → Q (.ref l) H1) : rCatA K (.ref a) (.ref b) H Q :=
  ⟨a, b, xs, ys, rfl, rfl, ha, hb, Nat.le_trans hz (by decide), fun e => q b H (Kp.refl _) (by rw [e]; exact hb), fun _ e => q a H (Kp.refl _) (by rw [e, List.append_nil]; exact ha), fun _ _ l hl => q l _ (Kp.new hl) (SqT.of upd_same)⟩
theorem x_catL {H : Hp} {Q : VK} {a b : Addr} {xs ys : List V} (ha : H a = some (.lst xs)) (hb : H b = some (.lst ys)) (hz : xs.length + ys.length ≤ sizeLine) (q : ∀ l H1, H l = none → Kp F0 H H1 → H1 l = some (.lst (xs ++ ys)) → Q (.ref l) H1) : rCat (.ref a) (.ref b) H Q :=
  ⟨a, b, xs, ys, rfl, rfl, ha, hb, hz, fun l hl => q l _ hl (Kp.new hl) upd_same⟩
/-- data compared -/
theorem x_eqD {K : PySem.W.Frag} {H : Hp} {Q : VK} {x y : V} {d e : PyData} (hx : Dp K H x d) (hy : Dp K H y e) (s1 : SeqAt.shaped d = true) (s2 : SeqAt.shaped e = true) (q : Q (.bl (PyData.eqv d e)) H) : rEqD K x y H Q := ⟨d, e, hx, hy, s1, s2, q⟩
theorem x_neD {K : PySem.W.Frag} {H : Hp} {Q : VK} {x y : V} {d e : PyData} (hx : Dp K H x d) (hy : Dp K H y e) (s1 : SeqAt.shaped d = true) (s2 : SeqAt.shaped e = true) (q : Q (.bl (!PyData.eqv d e)) H) : rNeD K x y H Q := ⟨d, e, hx, hy, s1, s2, q⟩

/-! ### data of ints and texts: equal as data, equal -/
mutual
def nb : PyData → Bool
  | .none => true
  | .bool _ => false
  | .int _ => true
  | .str _ => true
  | .list xs => nbAll xs
  | .tuple xs => nbAll xs
  | .dict _ => false
def nbAll : List PyData → Bool
  | [] => true
  | x :: xs => nb x && nbAll xs
end
mutual
theorem eqv_nb : ∀ d e : PyData, nb d = true → nb e = true → (PyData.eqv d e = true ↔ d = e)
  | .none, e, _, h => by cases e <;> first | (simp [nb] at h; done) | simp [PyData.eqv]
  | .int i, e, _, h => by cases e <;> first | (simp [nb] at h; done) | simp [PyData.eqv]
  | .str i, e, _, h => by cases e <;> first | (simp [nb] at h; done) | simp [PyData.eqv]
  | .list xs, e, g, h => by
    cases e with
    | list ys => rw [show PyData.eqv (.list xs) (.list ys) = PyData.eqvAll xs ys by simp [PyData.eqv], eqvAll_nb xs ys (by simpa [nb] using g) (by simpa [nb] using h)]; simp
    | bool b => simp [nb] at h
    | dict b => simp [nb] at h
    | _ => simp [PyData.eqv]
  | .tuple xs, e, g, h => by
    cases e with
    | tuple ys => rw [show PyData.eqv (.tuple xs) (.tuple ys) = PyData.eqvAll xs ys by simp [PyData.eqv], eqvAll_nb xs ys (by simpa [nb] using g) (by simpa [nb] using h)]; simp
    | bool b => simp [nb] at h
    | dict b => simp [nb] at h
    | _ => simp [PyData.eqv]
  | .bool _, _, g, _ => by simp [nb] at g
  | .dict _, _, g, _ => by simp [nb] at g
theorem eqvAll_nb : ∀ xs ys : List PyData, nbAll xs = true → nbAll ys = true → (PyData.eqvAll xs ys = true ↔ xs = ys)
  | [], [], _, _ => by simp [PyData.eqvAll]
  | [], _ :: _, _, _ => by simp [PyData.eqvAll]
  | _ :: _, [], _, _ => by simp [PyData.eqvAll]
  | x :: xs, y :: ys, g, h => by
    simp only [nbAll, Bool.and_eq_true] at g h
    simp only [PyData.eqvAll, Bool.and_eq_true, List.cons.injEq]
    rw [eqv_nb x y g.1 h.1, eqvAll_nb xs ys g.2 h.2]
end
theorem eqv_dec {d e : PyData} (h1 : nb d = true) (h2 : nb e = true) {p : Prop} [Decidable p] (h : d = e ↔ p) : PyData.eqv d e = decide p := by
  rw [Bool.eq_iff_iff, eqv_nb d e h1 h2, h, decide_eq_true_iff]
/-- data whose rows are shaped -/
def Sh (n : Nat) (d : PyData) : Prop := d.canLay0 = true ∧ d.depth ≤ n ∧ nb d = true
theorem Sh.shaped {n : Nat} {d : PyData} (h : Sh n d) (hn : n ≤ 64 := by decide) : SeqAt.shaped d = true := by
  unfold SeqAt.shaped
  rw [h.1, decide_eq_true (Nat.le_trans h.2.1 hn)]; rfl
theorem Sh.int (i : Int) : Sh 0 (.int i) := ⟨by simp [PyData.canLay0], by simp [PyData.depth], by simp [nb]⟩
theorem sh_all {n : Nat} : ∀ {ds : List PyData}, (∀ d ∈ ds, Sh n d) → PyData.canLayAll0 ds = true ∧ PyData.depthAll ds ≤ n ∧ nbAll ds = true
  | [], _ => ⟨by simp [PyData.canLayAll0], by simp [PyData.depthAll], by simp [nbAll]⟩
  | d :: ds, h => by
    have h1 := h d (by simp)
    have h2 := sh_all (ds := ds) fun x hx => h x (List.mem_cons_of_mem _ hx)
    exact ⟨by simp [PyData.canLayAll0, h1.1, h2.1], by simp only [PyData.depthAll]; have := h1.2.1; have := h2.2.1; omega, by simp [nbAll, h1.2.2, h2.2.2]⟩
theorem Sh.list {n : Nat} {ds : List PyData} (h : ∀ d ∈ ds, Sh n d) : Sh (n + 1) (.list ds) := by
  have q := sh_all h
  exact ⟨by simp [PyData.canLay0, q.1], by simp only [PyData.depth]; have := q.2.1; omega, by simp [nb, q.2.2]⟩
theorem Sh.tuple {n : Nat} {ds : List PyData} (h : ∀ d ∈ ds, Sh n d) : Sh (n + 1) (.tuple ds) := by
  have q := sh_all h
  exact ⟨by simp [PyData.canLay0, q.1], by simp only [PyData.depth]; have := q.2.1; omega, by simp [nb, q.2.2]⟩
theorem sh_ints (ns : List Int) : ∀ d ∈ ns.map PyData.int, Sh 0 d := fun d h => by
  obtain ⟨i, _, rfl⟩ := List.mem_map.mp h
  exact Sh.int i
theorem map_int_inj : ∀ {ns ms : List Int}, ns.map PyData.int = ms.map PyData.int ↔ ns = ms
  | [], [] => by simp
  | [], _ :: _ => by simp
  | _ :: _, [] => by simp
  | n :: ns, m :: ms => by simp [map_int_inj (ns := ns) (ms := ms)]
theorem dp_ints {K : PySem.W.Frag} {H : Hp} : ∀ ns : List Int, DpAll K H (ns.map V.int) (ns.map PyData.int)
  | [] => .nil
  | n :: ns => .cons (.int n) (dp_ints ns)
theorem x_eqLI {K : PySem.W.Frag} {H : Hp} {Q : VK} {a b : Addr} {ns ms : List Int} (ha : SqL K H a (ns.map V.int)) (hb : SqL K H b (ms.map V.int)) (q : Q (.bl (decide (ns = ms))) H) : rEqD K (.ref a) (.ref b) H Q :=
  x_eqD (.lst ha (dp_ints _)) (.lst hb (dp_ints _)) (Sh.list (sh_ints _)).shaped (Sh.list (sh_ints _)).shaped (by rw [eqv_dec (p := ns = ms) (Sh.list (sh_ints _)).2.2 (Sh.list (sh_ints _)).2.2 (by simp [map_int_inj])]; exact q)
theorem x_neLI {K : PySem.W.Frag} {H : Hp} {Q : VK} {a b : Addr} {ns ms : List Int} (ha : SqL K H a (ns.map V.int)) (hb : SqL K H b (ms.map V.int)) (q : Q (.bl (!decide (ns = ms))) H) : rNeD K (.ref a) (.ref b) H Q :=
  x_neD (.lst ha (dp_ints _)) (.lst hb (dp_ints _)) (Sh.list (sh_ints _)).shaped (Sh.list (sh_ints _)).shaped (by rw [eqv_dec (p := ns = ms) (Sh.list (sh_ints _)).2.2 (Sh.list (sh_ints _)).2.2 (by simp [map_int_inj])]; exact q)
theorem x_eqTI {K : PySem.W.Frag} {H : Hp} {Q : VK} {a b : Addr} {ns ms : List Int} (ha : SqT K H a (ns.map V.int)) (hb : SqT K H b (ms.map V.int)) (q : Q (.bl (decide (ns = ms))) H) : rEqD K (.ref a) (.ref b) H Q :=
  x_eqD (.tup ha (dp_ints _)) (.tup hb (dp_ints _)) (Sh.tuple (sh_ints _)).shaped (Sh.tuple (sh_ints _)).shaped (by rw [eqv_dec (p := ns = ms) (Sh.tuple (sh_ints _)).2.2 (Sh.tuple (sh_ints _)).2.2 (by simp [map_int_inj])]; exact q)
theorem x_neTI {K : PySem.W.Frag} {H : Hp} {Q : VK} {a b : Addr} {ns ms : List Int} (ha : SqT K H a (ns.map V.int)) (hb : SqT K H b (ms.map V.int)) (q : Q (.bl (!decide (ns = ms))) H) : rNeD K (.ref a) (.ref b) H Q :=
  x_neD (.tup ha (dp_ints _)) (.tup hb (dp_ints _)) (Sh.tuple (sh_ints _)).shaped (Sh.tuple (sh_ints _)).shaped (by rw [eqv_dec (p := ns = ms) (Sh.tuple (sh_ints _)).2.2 (Sh.tuple (sh_ints _)).2.2 (by simp [map_int_inj])]; exact q)

/-! ### rules with the written part named -/
section
variable {X : Cx} {K : PySem.W.Frag} {e o : Expr} {es : List Expr} {ta to te : TE} {f name : Str} {pos apos cpos : Pos} {t : TA} {T id : String} {r : V → List V → Hp → VK → Prop} {tg l : Expr} {gs : TGs}
theorem pe_fldK (hK : X.K = K) (he : PE X e ta) (hb : attributeBase e f X.env (eval e X.env) = eval e X.env := by rfl) : PE X (.Attribute e f pos) (tFld K ta f) := by subst hK; exact pe_fld he hb
theorem pe_kBM (hK : X.K = K) (h : PE X e (tBM X.K T r to t)) : PE X e (tBM K T r to t) := by subst hK; exact h
theorem pe_kBM0 (hK : X.K = K) (h : PE X e (tBM0 X.K T r to)) : PE X e (tBM0 K T r to) := by subst hK; exact h
theorem pg_kT {k : Nat} (hK : X.K = K) (h : PG X tg (gTup X.K k gs)) : PG X tg (gTup K k gs) := by subst hK; exact h
theorem pi_listK (hK : X.K = K) (h : PE X l te) : PI X tg l (iList K te) := by subst hK; exact pi_list h
theorem pi_tupK (hK : X.K = K) (h : PE X l te) : PI X tg l (iTup K te) := by subst hK; exact pi_tup h
end

/-- what every law promises: True -/
def sp_law (K : PySem.W.Frag) : Sp := fun vs H Q _ => ∃ (a : Addr) (ns : List Int), vs = [.ref a] ∧ Sc K H a ns ∧ ns.length ≤ 63 ∧ ∀ H', Q (.bl true) H'
theorem tup_K {K : PySem.W.Frag} {H : Hp} {a : Addr} {dd : Option Addr} {us : List Value} {n : Nat} {sl : Array (Option Value)} {xs : List V} (h : K.lookup a = some ⟨.type "tuple", dd, .seq us.toArray n, sl⟩) (r : Vals xs us) (z : us.length ≤ 1000 := by exact Nat.le_of_ble_eq_true rfl) : SqT K H a xs :=
  .inr ⟨_, us.toArray, n, h, rfl, rfl, Nat.le_trans (by simpa using z) (by decide : 1000 ≤ sizeLine), r⟩

/-! ### methods of lists, targets -/
section
variable {K : PySem.W.Frag} {σ : L2.St} {H : Hp} {Q : VK} {to te : TE} {ts : TA} {T : String} {r : V → List V → Hp → VK → Prop} {l b p a : Addr} {xs zs : List V} {y v : V}
theorem x_bm (h : to σ H fun x H1 => tyV K T x H1 ∧ ts σ H1 fun xs H2 => r x xs H2 Q) : tBM K T r to ts σ H Q := h
theorem x_bm0 (h : to σ H fun x H1 => tyV K T x H1 ∧ r x [] H1 Q) : tBM0 K T r to σ H Q := h
theorem x_ty {B : Prop} (h : H p = some (.lst xs)) (q : B) : tyV K "list" (.ref p) H ∧ B := ⟨.inl ⟨rfl, _, SqL.of h⟩, q⟩
theorem x_app (h : H l = some (.lst xs)) (hz : xs.length < 16777216) (q : ∀ H1, H1 l = some (.lst (xs ++ [y])) → Kp (F1 l) H H1 → Q .non H1) : rAppend (.ref l) [y] H Q :=
  ⟨l, xs, y, rfl, rfl, h, Nat.lt_of_lt_of_le hz (by decide), q _ upd_same (Kp.put h id)⟩
theorem x_ext (h : H l = some (.lst xs)) (hb : H b = some (.lst zs)) (hz : xs.length + zs.length ≤ 16777216) (q : ∀ H1, H1 l = some (.lst (xs ++ zs)) → Kp (F1 l) H H1 → Q .non H1) : rExtend (.ref l) [.ref b] H Q :=
  ⟨l, b, xs, zs, rfl, rfl, h, hb, Nat.le_trans hz (by decide), q _ upd_same (Kp.put h id)⟩
theorem x_all {bs : List Bool} (h : SqL K H a (bs.map V.bl)) (q : Q (.bl (bs.all id)) H) : rAll K [.ref a] H Q := ⟨a, bs, rfl, h, q⟩
theorem x_any {bs : List Bool} (h : SqL K H a (bs.map V.bl)) (q : Q (.bl (bs.any id)) H) : rAny K [.ref a] H Q := ⟨a, bs, rfl, h, q⟩
theorem x_gt {n : Nat} {g : TGs} {R : L2.St → Hp → Prop} (h : SqT K H a xs) (hn : xs.length = n) (q : g xs σ H R) : gTup K n g (.ref a) σ H R := ⟨a, xs, rfl, h, hn, q⟩
theorem x_gc {t : TG} {u : TGs} {R : L2.St → Hp → Prop} (q : t v σ H fun σ' H' => u xs σ' H' R) : gCons t u (v :: xs) σ H R := ⟨v, xs, rfl, q⟩
theorem x_g0 {R : L2.St → Hp → Prop} (q : R σ H) : gNil [] σ H R := ⟨rfl, q⟩
theorem x_isiT {S : String} {b : Bool} (h : SqT K H a xs) (ht : TyX K H (.ref a) (.type "tuple")) (hk : PySem.W.kitOne K (.type "tuple") (.type S) = some b) (q : Q (.bl b) H) : rIsi K [.ref a, .ty S] H Q := ⟨_, _, _, _, b, rfl, .ty S, ht, hk, q⟩
end
/-- n & (2 ^ k - 1) -/
def rAndM : R2 := fun x y H Q => ∃ (i : Int) (k : Nat), x = .int i ∧ y = .int (2 ^ k - 1) ∧ Q (.int (i % 2 ^ k)) H
theorem o_and {X : Cx} : OpR X (binaryOp .BitAnd) rAndM := op_andM
theorem x_and255 {H : Hp} {Q : VK} {i : Int} (q : Q (.int (i % 256)) H) : rAndM (.int i) (.int 255) H Q := ⟨i, 8, rfl, rfl, q⟩
/-! ### slices -/
theorem cut_to {a : List Int} {j : Int} (h0 : 0 ≤ j) (h1 : j ≤ a.length) : cutV (a.map V.int) none (some j) = (a.take j.toNat).map V.int := by
  obtain ⟨k, rfl⟩ := Int.eq_ofNat_of_zero_le h0
  unfold cutV
  rw [HT.sIx_none, HT.sIx_nat]
  simp only [List.drop_zero, Nat.sub_zero, List.length_map, List.map_take, Int.toNat_natCast]
  congr 1
  omega
theorem cut_from {a : List Int} {j : Int} (h0 : 0 ≤ j) (h1 : j ≤ a.length) : cutV (a.map V.int) (some j) none = (a.drop j.toNat).map V.int := by
  obtain ⟨k, rfl⟩ := Int.eq_ofNat_of_zero_le h0
  unfold cutV
  rw [HT.sIx_none, HT.sIx_nat]
  simp only [List.length_map, List.map_drop, Int.toNat_natCast]
  rw [show min k a.length = k by omega, List.take_of_length_le (by simp)]
theorem cut_mid {a : List Int} {i j : Int} (h0 : 0 ≤ i) (h1 : i ≤ j) : cutV (a.map V.int) (some i) (some j) = ((a.drop i.toNat).take (j - i).toNat).map V.int := by
  obtain ⟨m, rfl⟩ := Int.eq_ofNat_of_zero_le h0
  obtain ⟨n, rfl⟩ := Int.eq_ofNat_of_zero_le (Int.le_trans h0 h1)
  unfold cutV
  rw [HT.sIx_nat, HT.sIx_nat]
  simp only [List.length_map, List.map_take, List.map_drop, Int.toNat_natCast]
  have e : ((n : Int) - (m : Int)).toNat = n - m := by omega
  rw [e]
  by_cases q : m ≤ a.length
  · rw [show min m a.length = m by omega]
    by_cases q2 : n ≤ a.length
    · rw [show min n a.length = n by omega]
    · rw [show min n a.length = a.length by omega, List.take_of_length_le (by simp), List.take_of_length_le (by simp; omega)]
  · rw [List.drop_eq_nil_of_le (by simp; omega), List.drop_eq_nil_of_le (by simp; omega)]; simp

/-! ### exceptions of own classes, made without arguments -/
section
variable {X : Cx} {C : Addr} {bmB : List Value} {B newId initId : String} {x : Str} {p pos : Pos}
theorem pmk_own0 (F : ExcBaseFacts B newId initId bmB) (q : PySem.W.excIn X.K C bmB newId = true) (gC : X.mg x = some (.ref C)) (kC : PySem.W.keepIn X.K (.ref C) = true) (r : Raises X (.ref C)) (hg : Gl X x)
    (hdb : (x == ("__debug__" : Str)) = false := by decide) : PMk X (.Call (.Name x p) [] [] pos) (fun _ H Q => Q (.ref C) none H) := fun pins s σ H Q I h => by
  refine wpAny_Call_Name_kw (ld_glob I hg gC (PySem.W.callWith_K0 I.kIn kC ?_) hdb)
  obtain ⟨_, _, _, _, _, _, _, _, _, _, _, _, _, _, _, _, _, hC, hN, hi, T⟩ := exc_obj I.kIn q
  exact wpAny_call_exc_subT F T hC hN hi (fun _ _ hm => mk_of I hm r h (I.hok.gone hm.new)) (Nat.zero_le _)
end
/-- what the top tells of an own exception class -/
structure ExT (K : PySem.W.Frag) (mg : Str → Option Value) (x : Str) (C : Addr) : Prop where
  g : mg x = some (.ref C)
  x : PySem.W.excIn K C [.type "ValueError", .type "Exception", .type "BaseException", .type "object"] "ValueError.__new__" = true
  k : PySem.W.keepIn K (.ref C) = true
  b : PySem.W.subIn K (.ref C) (.type "BaseException") = some true
  t : PySem.W.typeIn K (.ref C) = some (.type "type")
  i : PySem.W.isClsIn K C = true
  s : PySem.W.subIn K (.ref C) (.ref C) = some true
section
variable {X : Cx} {C : Addr} {x : Str} {p pos : Pos}
theorem pmk_X (T : ExT X.K X.mg x C) (hg : Gl X x := by rfl) (hdb : (x == ("__debug__" : Str)) = false := by decide) : PMk X (.Call (.Name x p) [] [] pos) (fun _ H Q => Q (.ref C) none H) :=
  pmk_own0 PySem.F.excBase_ValueError T.x T.g T.k (raises_own T.b T.t) hg hdb
/-- what an own raising def lets out goes to its own wish -/
theorem passE {E : XK} {E1 : Value → Shared → Prop} (hs : X.stack = X.env :: X.outer) (hf : X.env.frame = some X.env.locals) (hex : X.ex = [])
    (hx : X.xe = fun e s' => wpAny (model X.prog X.w) X.A (leaving X.env e) (fun _ s'' => L2.CX X.prog X.w X.outer X.H_0 X.s_0 E e s'') E1 s') : ∀ σ, PassesAt (L2.CX X.prog X.w) X σ ((fun _ => E) σ) :=
  fun σ pins H s e s' I c => passes_call (takes_of hs hf hex hx) (fun _ _ _ _ z => z) pins σ H s e s' I c
end

/-! ### the same, for exceptions whose context is None (defs called in an except suite) -/
theorem pmk_XN {X : Cx} {C : Addr} {x : Str} {p pos : Pos} (T : ExT X.K X.mg x C) (hg : Gl X x := by rfl) (hdb : (x == ("__debug__" : Str)) = false := by decide) : L2N.PMk X (.Call (.Name x p) [] [] pos) (fun _ H Q => Q (.ref C) none H) := fun pins s σ H Q I h => by
  refine wpAny_Call_Name_kw (ld_glob I hg T.g (PySem.W.callWith_K0 I.kIn T.k ?_) hdb)
  obtain ⟨_, _, _, _, _, _, _, _, _, _, _, _, _, _, _, _, _, hC, hN, hi, U⟩ := exc_obj I.kIn T.x
  exact wpAny_call_exc_subT PySem.F.excBase_ValueError U hC hN hi (fun _ _ hm => L2N.mk_of I hm (raises_own T.b T.t) h (I.hok.gone hm.new)) (Nat.zero_le _)
theorem passEN {X : Cx} {E : XK} {E1 : Value → Shared → Prop} (hs : X.stack = X.env :: X.outer) (hf : X.env.frame = some X.env.locals) (hex : X.ex = [])
    (hx : X.xe = fun e s' => wpAny (model X.prog X.w) X.A (leaving X.env e) (fun _ s'' => L2N.CX X.prog X.w X.outer X.H_0 X.s_0 E e s'') E1 s') : ∀ σ, PassesAt (L2N.CX X.prog X.w) X σ ((fun _ => E) σ) :=
  fun σ pins H s e s' I c => L2N.passes_call (L2N.takes_of hs hf hex hx) (fun _ _ _ _ z => z) pins σ H s e s' I c
theorem passNN {X : Cx} : ∀ σ, PassesAt (L2N.CX X.prog X.w) X σ ((fun _ => E0) σ) := fun σ pins H s e s' I c => by
  obtain ⟨_, _, _, _, _, _, _, _, _, _, _, _, z⟩ := c
  exact z.elim
theorem okXN {P : Program} {w : World} {K : PySem.W.Frag} {mg : Str → Option Value} {base : Heap} {x qual : Str} {st : Stmt} {f : Addr} {fd : FuncData} {N ps : List Str} {k : Nat} {sp : Sp} (F : Fun K x qual st f fd) (S : FnScope N ps (defScope st)) (len : ∀ vs H Q E, sp vs H Q E → vs.length = ps.length)
    (hb : ∀ cdv A outer s H vs Q E, Room k (A.deeper (PyProof.Rows.envOfC qual (defScope st) s.heap.objs.size f cdv)) → sp vs H Q E →
      ∃ t, PSs (cxOf (L2N.CX P w) P w K mg base N qual (defScope st) f cdv A outer s H E) (defBody st) t ∧ t { nx := fun _ H' => Q .non H', rt := Q } (start N vs) H) : FnOk P w K mg base (L2N.CX P w) (k + 1) f fd ps sp := by
  obtain ⟨oc, od, kV, doc, pm, an, cdv, ct, osl, rfl, lk, hcd⟩ := F.ex
  exact fn_of lk hcd S len (hb cdv)

/-! ### fields, methods, dicts: their steps -/
section
variable {K : PySem.W.Frag} {σ : L2.St} {H : Hp} {Q : VK} {D : Ends} {ta tv td ty tx te : TE} {t u : TS} {x y z v : V} {f m : Str} {p a C dx : Addr} {fs fs' : List (Str × V)} {ts : TA} {sp : Sp} {E : L2.St → XK}
def rFldQ (K : PySem.W.Frag) (f : Str) (x : V) (H : Hp) (Q : VK) : Prop := ∃ a C dx fs v, x = .ref a ∧ H a = some (.ins C dx fs) ∧ Cls K C ∧ NoAttr K C f ∧ fs.lookup f = some v ∧ Q v H
theorem x_tfld (h : ta σ H fun x H1 => rFldQ K f x H1 Q) : tFld K ta f σ H Q := h
theorem x_fld (h : H p = some (.ins C dx fs)) (cl : Cls K C) (na : NoAttr K C f) (l : fs.lookup f = some v) (q : Q v H) : rFldQ K f (.ref p) H Q := ⟨p, C, dx, fs, v, rfl, h, cl, na, l, q⟩
def rSFld (K : PySem.W.Frag) (f : Str) (x y : V) (H : Hp) (R : Hp → Prop) : Prop := ∃ a C dx fs, x = .ref a ∧ H a = some (.ins C dx fs) ∧ Cls K C ∧ NoAttr K C f ∧ fs.length < 1000 ∧ R (upd H a (.ins C dx (putF f y fs)))
theorem x_tsf (h : tv σ H fun y H1 => ta σ H1 fun x H2 => rSFld K f x y H2 (D.nx σ)) : sFld K ta tv f D σ H := h
theorem x_sfl {R : Hp → Prop} (h : H p = some (.ins C dx fs)) (cl : Cls K C) (na : NoAttr K C f) (ln : fs.length < 1000) (e : putF f y fs = fs') (q : ∀ H1, H1 p = some (.ins C dx fs') → Kp (F1 p) H H1 → R H1) : rSFld K f (.ref p) y H R :=
  ⟨p, C, dx, fs, rfl, h, cl, na, ln, q _ (by rw [e]; exact upd_same) (Kp.put h id)⟩
def rAugQ (K : PySem.W.Frag) (f : Str) (x : V) (H : Hp) (R : Addr → Addr → V → Prop) : Prop := ∃ a C dx fs v, x = .ref a ∧ H a = some (.ins C dx fs) ∧ Cls K C ∧ NoAttr K C f ∧ fs.lookup f = some v ∧ R a C v
def rAugP (f : Str) (a C : Addr) (z : V) (H : Hp) (R : Hp → Prop) : Prop := ∃ dx' fs', H a = some (.ins C dx' fs') ∧ fs'.length < 1000 ∧ R (upd H a (.ins C dx' (putF f z fs')))
theorem x_aug {rd : V → V → Hp → VK → Prop} (h : ta σ H fun x H1 => rAugQ K f x H1 fun a C v => tv σ H1 fun y H2 => rd v y H2 fun z H3 => rAugP f a C z H3 (D.nx σ)) : sFldAug K ta tv rd f D σ H := by
  exact h
theorem x_augI {R : Addr → Addr → V → Prop} (h : H p = some (.ins C dx fs)) (cl : Cls K C) (na : NoAttr K C f) (l : fs.lookup f = some v) (q : R p C v) : rAugQ K f (.ref p) H R := ⟨p, C, dx, fs, v, rfl, h, cl, na, l, q⟩
theorem x_augP {R : Hp → Prop} (h : H p = some (.ins C dx fs)) (ln : fs.length < 1000) (e : putF f y fs = fs') (q : ∀ H1, H1 p = some (.ins C dx fs') → Kp (F1 p) H H1 → R H1) : rAugP f p C y H R :=
  ⟨dx, fs, h, ln, q _ (by rw [e]; exact upd_same) (Kp.put h id)⟩
theorem x_radd {i j : Int} (q : Q (.int (i + j)) H) : rAdd (.int i) (.int j) H Q := ⟨i, j, rfl, rfl, q⟩
theorem x_rsub {i j : Int} (q : Q (.int (i - j)) H) : rSub (.int i) (.int j) H Q := ⟨i, j, rfl, rfl, q⟩
def rMethQ (C : Addr) (m : Str) (x : V) (H : Hp) (R : Addr → Prop) : Prop := ∃ a dx fs, x = .ref a ∧ H a = some (.ins C dx fs) ∧ fs.lookup m = none ∧ R a
theorem x_tmt (h : ta σ H fun x H1 => rMethQ C m x H1 fun a => ts σ H1 fun vs H2 => sp (.ref a :: vs) H2 Q (E σ)) : tMethS C m sp E ta ts σ H Q := h
theorem x_mt {R : Addr → Prop} (h : H p = some (.ins C dx fs)) (l : fs.lookup m = none) (q : R p) : rMethQ C m (.ref p) H R := ⟨p, dx, fs, rfl, h, l, q⟩
theorem x_mk (h : ts σ H fun vs H1 => ∀ x dx, H1 x = none → H1 dx = none → dx ≠ x → sp (.ref x :: vs) (upd (upd H1 dx (.own x)) x (.ins C dx [])) (fun v H2 => v = .non ∧ Q (.ref x) H2) (E σ)) : tMakeS C sp E ts σ H Q := h
/-- d[k], k in d, d.get(k, z), d[k] = v, d.pop(k) -/
def rDGet (x y : V) (H : Hp) (Q : VK) : Prop := ∃ a v, x = .ref a ∧ DGet H a y (some v) ∧ Q v H
theorem x_tdg (h : td σ H fun x H1 => ty σ H1 fun y H2 => rDGet x y H2 Q) : tDGet td ty σ H Q := h
theorem x_dgI {kvs : List (Key × V)} {n : Int} (h : Rd H a (.dK kvs)) (e : valV kvs (Sum.inl n) = some v) (q : Q v H) : rDGet (.ref a) (.int n) H Q := ⟨a, v, rfl, .inl ⟨kvs, .inl n, h, rfl, e.symm⟩, q⟩
theorem x_dgS {kvs : List (Key × V)} {n : Str} (h : Rd H a (.dK kvs)) (e : valV kvs (Sum.inr n) = some v) (q : Q v H) : rDGet (.ref a) (.str n) H Q := ⟨a, v, rfl, .inl ⟨kvs, .inr n, h, rfl, e.symm⟩, q⟩
def rDIn (x y : V) (H : Hp) (Q : VK) : Prop := ∃ a o, x = .ref a ∧ DGet H a y o ∧ Q (.bl o.isSome) H
theorem x_tdi (h : ty σ H fun y H1 => td σ H1 fun x H2 => rDIn x y H2 Q) : tDIn ty td σ H Q := h
theorem x_diI {kvs : List (Key × V)} {n : Int} (h : Rd H a (.dK kvs)) (q : Q (.bl (valV kvs (Sum.inl n)).isSome) H) : rDIn (.ref a) (.int n) H Q := ⟨a, _, rfl, .inl ⟨kvs, .inl n, h, rfl, rfl⟩, q⟩
def rDNin (x y : V) (H : Hp) (Q : VK) : Prop := ∃ a o, x = .ref a ∧ DGet H a y o ∧ Q (.bl (!o.isSome)) H
theorem x_tdn (h : ty σ H fun y H1 => td σ H1 fun x H2 => rDNin x y H2 Q) : tDNotIn ty td σ H Q := h
theorem x_dnI {kvs : List (Key × V)} {n : Int} (h : Rd H a (.dK kvs)) (q : Q (.bl (!(valV kvs (Sum.inl n)).isSome)) H) : rDNin (.ref a) (.int n) H Q := ⟨a, _, rfl, .inl ⟨kvs, .inl n, h, rfl, rfl⟩, q⟩
def rDGet2 (x : V) (H : Hp) (R : Addr → Prop) : Prop := ∃ a, x = .ref a ∧ IsD H a ∧ R a
def rDGet2b (a : Addr) (y z : V) (H : Hp) (Q : VK) : Prop := ∃ o, DGet H a y o ∧ Q (o.getD z) H
theorem x_tg2 (h : td σ H fun x H1 => rDGet2 x H1 fun a => ty σ H1 fun y H2 => tx σ H2 fun z H3 => rDGet2b a y z H3 Q) : tDGet2 td ty tx σ H Q := h
theorem x_g2a {kvs : List (Key × V)} {R : Addr → Prop} (h : Rd H a (.dK kvs)) (q : R a) : rDGet2 (.ref a) H R := ⟨a, rfl, .inl ⟨kvs, h⟩, q⟩
theorem x_g2b {kvs : List (Key × V)} {n : Int} (h : Rd H a (.dK kvs)) (q : Q ((valV kvs (Sum.inl n)).getD z) H) : rDGet2b a (.int n) z H Q := ⟨_, .inl ⟨kvs, .inl n, h, rfl, rfl⟩, q⟩
def rDPut (x y v : V) (H : Hp) (R : Hp → Prop) : Prop := ∃ a H4, x = .ref a ∧ DPut H a y v H4 ∧ R H4
theorem x_tdp (h : tv σ H fun v H1 => td σ H1 fun x H2 => ty σ H2 fun y H3 => rDPut x y v H3 (D.nx σ)) : sDPut td ty tv D σ H := h
theorem x_dpI {kvs : List (Key × V)} {n : Int} {R : Hp → Prop} (h : H a = some (.dK kvs)) (z : kvs.length < 16777216) (q : ∀ H1, H1 a = some (.dK (putK kvs (Sum.inl n) v)) → Kp (F1 a) H H1 → R H1) : rDPut (.ref a) (.int n) v H R :=
  ⟨a, _, rfl, .inl ⟨kvs, .inl n, h, rfl, Nat.lt_of_lt_of_le z (by decide), rfl⟩, q _ upd_same (Kp.put h id)⟩
theorem x_dpS {kvs kvs' : List (Key × V)} {n : Str} {R : Hp → Prop} (h : H a = some (.dK kvs)) (e : putK kvs (Sum.inr n) v = kvs') (z : kvs.length < 16777216) (q : ∀ H1, H1 a = some (.dK kvs') → Kp (F1 a) H H1 → R H1) : rDPut (.ref a) (.str n) v H R :=
  ⟨a, _, rfl, .inl ⟨kvs, .inr n, h, rfl, Nat.lt_of_lt_of_le z (by decide), rfl⟩, q _ (by rw [e]; exact upd_same) (Kp.put h id)⟩
theorem x_dnew (h : ∀ p H1, H p = none → Kp F0 H H1 → H1 p = some (.dK []) → Q (.ref p) H1) : tDNewK σ H Q := fun p hp => h p _ hp (Kp.new hp) upd_same
theorem x_lenD {kvs : List (Key × V)} (h : H a = some (.dK kvs)) (q : Q (.int kvs.length) H) : (fun (xs : List V) (H : Hp) (Q : VK) => ∃ a kvs, xs = [V.ref a] ∧ H a = some (.dK kvs) ∧ Q (.int kvs.length) H) [.ref a] H Q := ⟨a, kvs, rfl, h, q⟩
/-- x is None -/
def rIsNQ : R2 := fun x y H Q => y = .non ∧ Q (.bl (decide (x = .non))) H
theorem o_isN {X : Cx} : OpR X (compareOp .Is) rIsNQ := op_isN
theorem x_isNi {i : Int} (q : Q (.bl false) H) : rIsNQ (.int i) .non H Q := ⟨rfl, q⟩
theorem x_isNr (q : Q (.bl false) H) : rIsNQ (.ref a) .non H Q := ⟨rfl, q⟩
theorem x_isNn (q : Q (.bl true) H) : rIsNQ .non .non H Q := ⟨rfl, q⟩
def rNotNQ : R2 := fun x y H Q => y = .non ∧ Q (.bl (!decide (x = .non))) H
theorem o_notN {X : Cx} : OpR X (compareOp .IsNot) rNotNQ := op_notN
theorem x_notNi {i : Int} (q : Q (.bl true) H) : rNotNQ (.int i) .non H Q := ⟨rfl, q⟩
theorem x_notNr (q : Q (.bl true) H) : rNotNQ (.ref a) .non H Q := ⟨rfl, q⟩
theorem x_notNn (q : Q (.bl false) H) : rNotNQ .non .non H Q := ⟨rfl, q⟩
end
/-- a repeated list -/
theorem x_rep {H : Hp} {Q : VK} {l : Addr} {k : Int} {v : V} (h : H l = some (.lst [v])) (h0 : 0 ≤ k) (h1 : k ≤ 1000000) (q : ∀ p H1, H p = none → Kp F0 H H1 → H1 p = some (.lst (List.replicate k.toNat v)) → Q (.ref p) H1) : rRep (.ref l) (.int k) H Q :=
  ⟨l, k, [v], rfl, rfl, h, by omega, by omega, by rw [sizeLine_eq]; simp only [List.length_singleton]; omega, fun p hp => q p _ hp (Kp.new hp) (by rw [upd_same]; congr 2; generalize k.toNat = n; induction n with | zero => rfl | succ n ih => rw [List.replicate_succ, List.flatten_cons, ih, List.replicate_succ]; rfl)⟩
/-- reversed(xs) -/
theorem Wk.rev {K : PySem.W.Frag} {a : Addr} {xs : List V} : Wk (Itv K a xs.length) (fun H => SqL K H a xs) xs.reverse where
  go := fun i H h g => by
    rw [List.length_reverse] at h
    exact ⟨h, xs, xs[xs.length - 1 - i], g, by rw [List.getElem?_eq_getElem (by omega)]⟩
  yld := fun i H x H' h g y => by
    rw [List.length_reverse] at h
    refine ⟨y.1.symm, ?_⟩
    rw [List.getElem?_reverse h]
    exact y.2 xs g
  stop := fun H _ => by show xs.length ≤ _; rw [List.length_reverse]; exact Nat.le_refl _
section
variable {K : PySem.W.Frag} {σ : L2.St} {H : Hp} {ts : TA} {R : It → Hp → Prop} {a : Addr}
def rRevQ (K : PySem.W.Frag) (vs : List V) (H : Hp) (R : It → Hp → Prop) : Prop := ∃ (a : Addr) (xs : List V), vs = [.ref a] ∧ SqL K H a xs ∧ R (Itv K a xs.length) H
theorem x_irev (h : ts σ H fun vs H1 => rRevQ K vs H1 R) : iRev K ts σ H R := h
theorem x_rev {xs : List V} (h : SqL K H a xs) (q : R (Itv K a xs.length) H) : rRevQ K [.ref a] H R := ⟨a, xs, rfl, h, q⟩
end
theorem pi_revK {X : Cx} {K : PySem.W.Frag} {tg e : Expr} {ta : TA} (hK : X.K = K) (h : PI X tg e (iRev X.K ta)) : PI X tg e (iRev K ta) := by subst hK; exact h
/-- a footprint and what a step makes of it -/
structure Stp (G G' : Addr → Prop) (H H' : Hp) : Prop where
  kp : Kp G H H'
  gr : ∀ b, G' b → G b ∨ H b = none
theorem Stp.refl (G : Addr → Prop) (H : Hp) : Stp G G H H := ⟨Kp.refl H, fun b h => .inl h⟩
theorem Stp.trans {G G1 G2 : Addr → Prop} {H H1 H2 : Hp} (s : Stp G G1 H H1) (t : Stp G1 G2 H1 H2) : Stp G G2 H H2 := by
  refine ⟨s.kp.trans t.kp s.gr, fun b g => ?_⟩
  rcases t.gr b g with h | h
  · exact s.gr b h
  · by_cases q : G b
    · exact .inl q
    · cases e : H b with
      | none => exact .inr rfl
      | some o => rw [s.kp.get e q] at h; cases h
theorem Stp.pure {G : Addr → Prop} {H H' : Hp} (k : Kp F0 H H') : Stp G G H H' := ⟨k.mono fun _ z => z.elim, fun b h => .inl h⟩
theorem Stp.kp0 {G G' : Addr → Prop} {H H' : Hp} {b : Addr} {o : HO} (s : Stp G G' H H') (h : H b = some o) (n : ¬ G b) : ¬ G' b := fun z => by
  rcases s.gr b z with q | q
  · exact n q
  · rw [h] at q; cases q

/-- isinstance(e, c) in the suite that caught e, the class as the reading tells it -/
theorem c_isE {X : Cx} {a D : Addr} {cls : Value} {d : Option Addr} {oe : Obj} {pn : List (Addr × Obj)} (C : ExcC X.K D) (hz : Zc cls d oe) (hf : ∃ vs, oe.data = .fields vs) :
    CallR (X.suite a ((a, oe) :: pn)) (.builtin "isinstance") (fun xs H Q => cls = .ref D ∧ d = none ∧ rIsE X.K D a xs H Q) := fun pins s σ H xs us Q I r h => by
  obtain ⟨rfl, rfl, h⟩ := h
  exact call_isE C hz hf pins s σ H xs us Q I r h
theorem at_of_lt {a : List Int} {i : Nat} (h : i < a.length) : (a.map V.int)[i]? = some (.int (a.getD i 0)) := by
  rw [List.getElem?_map, List.getD_eq_getElem?_getD, List.getElem?_eq_getElem h]; rfl
end NV
namespace NV
open PySem L2
/-! ### a def made in a def and handed to another one -/
/-- the handed function's cells: what they hold, that they are no frame -/
structure Hand (cl : List (Str × Addr)) (fr : List Str) (ws : List (Option V)) (outer : List Env) (h : Heap) (H : Hp) : Prop where
  c : NdefX.CellsAt cl fr ws h H
  nf : ∀ y a, cl.lookup y = some a → a ∉ frs outer
/-- a def's promise that leans on the state at its call -/
structure FnOkR (P : Program) (w : World) (K : PySem.W.Frag) (mg : Str → Option Value) (base : Heap) {π : Type} (k : Nat) (f : Addr) (fd : FuncData) (ps : List Str) (R : π → List Env → Heap → Hp → Prop) (sp : π → Sp) : Prop where
  len : ∀ p vs H Q E, sp p vs H Q E → vs.length = ps.length
  run : ∀ (p : π) (A : Around) (outer : List Env) (s : Shared) (H : Hp) (args : Args) (us : List Value) (vs : List V) (Q : VK) (E : XK), Room k A → Env0 P w K mg base A outer s H → BindsTo s fd args (ps.zip us) → Vals vs us → R p outer s.heap H → sp p vs H Q E →
    codeAny (model P w) A (.call (.ref f) args) (CR CX0 outer P w H s Q E) s
section
open PySem.Spec PyProof.Rows
variable {P : Program} {w : World} {K : PySem.W.Frag} {mg : Str → Option Value} {base : Heap} {π : Type}
theorem okR {x qual : Str} {st : Stmt} {f : Addr} {fd : FuncData} {N ps : List Str} {k : Nat} {R : π → List Env → Heap → Hp → Prop} {sp : π → Sp} (F : Fun K x qual st f fd) (S : FnScope N ps (defScope st)) (len : ∀ p vs H Q E, sp p vs H Q E → vs.length = ps.length)
    (hb : ∀ (p : π) (cdv : Value) (A : Around) (outer : List Env) (s : Shared) (H : Hp) (vs : List V) (Q : VK) (E : XK), Room k (A.deeper (PyProof.Rows.envOfC qual (defScope st) s.heap.objs.size f cdv)) → R p outer s.heap H → sp p vs H Q E →
      ∃ t, PSs (cxOf CX0 P w K mg base N qual (defScope st) f cdv A outer s H E).nox (defBody st) t ∧ t { nx := fun _ H' => Q .non H', rt := Q } (start N vs) H) : FnOkR P w K mg base (k + 1) f fd ps R sp := by
  obtain ⟨oc, od, kV, doc, pm, an, cdv, ct, osl, rfl, lk, hcd⟩ := F.ex
  refine ⟨len, fun p A outer s H args us vs Q E room e0 bnd rel hR hsp => ?_⟩
  have inK : K.In s.heap := e0.mod.kin.keeps fun b o e => (e0.bs b o e).1
  have parK : ∀ y ∈ ps.zip us, (defScope st).names.lookup y.1 = some .local ∨ ((defScope st).names.lookup y.1 = some .cell ∧ ((cellsFrom (s.heap.objs.size + 1) (defScope st).names []).lookup y.1).isSome = true) := by
    rintro ⟨nm, u⟩ hy
    cases S.par nm (List.of_mem_zip hy).1 with
    | inl q => exact .inl q
    | inr q => exact .inr ⟨q, PySem.W.cellsFrom_some _ _ _ (.inl q)⟩
  refine codeAny_call_function room.depth (inK _ _ lk) rfl S.co S.gen rfl (PySem.W.codeRec_of inK hcd) (bnd _ _ _ _ (wpAny_newFunctionEnv_cells S.kind parK fun env he s1 x => ?_))
  subst he
  refine ⟨(e0.mod.nolimit.keeps fun b o e => (e0.bs b o e).1 : s.heap.NoLimit).keeps x.toInCall.keep, codeAny_func ?_⟩
  obtain ⟨t, ht, hq⟩ := hb p cdv A outer s H vs Q E (room.deeper _) hR hsp
  refine wpAny_mono (ht.nox.run [] s1 (start N vs) H _ (inv_start S room.hd e0 (len p _ _ _ _ hsp) rel x) hq) (fun fl s' hs => ?_) fun e s' hs => hs
  cases fl with
  | next =>
    obtain ⟨σ', H', J, q⟩ := hs
    exact ⟨V.non, H', J.os, J.bare, J.base, J.hok, rfl, q⟩
  | ret u =>
    obtain ⟨v, σ', H', J, rv, q⟩ := hs
    exact ⟨v, H', J.os, J.bare, J.base, J.hok, rv, q⟩
  | cont =>
    obtain ⟨_, _, _, q⟩ := hs
    exact q.elim
  | brk =>
    obtain ⟨_, _, _, q⟩ := hs
    exact q.elim
/-- the method m of the class at C, its promise leaning on the state at the call -/
def GMR (P : Program) (w : World) (K : PySem.W.Frag) (mg : Str → Option Value) (base : Heap) (k : Nat) (C : Addr) (m : Str) (R : π → List Env → Heap → Hp → Prop) (sp : π → Sp) : Prop := ∃ f fd ps, FnOkR P w K mg base k f fd ps R sp ∧ Meth K C m f ∧ Binds K fd ps []
end
/-- a handed function: where it stands, its words, what its cells hold -/
structure CbP where
  f : Addr
  F : NdefX.NF
  ws : List (Option V)
def HandR (fr : List Str) (p : CbP) (outer : List Env) (h : Heap) (H : Hp) : Prop := Hand p.F.cl fr p.ws outer h H
/-- o.m(e, ..), a function made here among the arguments -/
def tMethR (C : Addr) (m : Str) (cl : List (Str × Addr)) (js : List Nat) (sp : CbP → Sp) (ta : TE) (t : TA) : TE := fun σ H Q => ta σ H fun x H1 => ∃ a dx fs, x = .ref a ∧ H1 a = some (.ins C dx fs) ∧ fs.lookup m = none ∧ t σ H1 fun vs H2 => ∃ p : CbP, p.F.cl = cl ∧ p.ws = js.map (NdefX.slotAt σ) ∧ sp p (.ref a :: vs) H2 Q E0
section
open PySem.Spec PyProof.Rows
variable {X : Cx} {o e : Expr} {es : List Expr} {ta : TE} {t : TA} {C : Addr} {m : Str} {pos apos p : Pos} {pl : Sem Bool} {k : Nat}
theorem hand_of {cl : List (Str × Addr)} {fr : List Str} {js : List Nat} {pins : List (Addr × Obj)} {σ : L2.St} {H : Hp} {s : Shared} (I : Inv X pins σ H s) (cp : NdefX.Caps X cl fr js) (hfn : ∀ y, X.fn y = true) : Hand cl fr (js.map (NdefX.slotAt σ)) X.stack s.heap H := by
  refine ⟨NdefX.cells_of I cp, fun y a e z => ?_⟩
  have e' := cp.sub y a e
  rcases List.mem_cons.mp (I.stkSub a z) with z | z
  · exact I.cne y a e' z
  · obtain ⟨_, ob, ho, _⟩ := I.ok.funs.mem z
    exact absurd (Heap.lt_size ho) (Nat.not_lt.mpr (I.ok.cab y a (hfn y) e'))
theorem pe_gmR {cl : List (Str × Addr)} {fr : List Str} {js : List Nat} {sp : CbP → Sp} (c : Cls X.K C) (G : GMR X.prog X.w X.K X.mg X.base k C m (HandR fr) sp) (ho : PE X o ta) (hr : Room k X.A) (cp : X.Ok → NdefX.Caps X cl fr js) (hfn : ∀ y, X.fn y = true) (ha : PA X (e :: es) t)
    (he : starEach (e :: es) X.env = (false, eval e X.env) :: starEach es X.env := by rfl) (hpl : (backTo pos (starEach es X.env)).any (·.1) = false := by rfl)
    (ht : eval (.Call (.Attribute o m apos) (e :: es) [] pos) X.env = (do
      let ov ← eval o X.env; standAt apos.atName; let (f, first) ← holding [ov] (getMethod ov m pl); callWith pos f first (backTo pos (starEach (e :: es) X.env)) (backToKw pos (keywordEach [] X.env))) := by rfl) :
    PE X (.Call (.Attribute o m apos) (e :: es) [] pos) (tMethR C m cl js sp ta t) := by
  obtain ⟨f, fd, ps, F, hm, hb⟩ := G
  refine ⟨fun pins s σ H Q I h => PySem.W.methodCall_KW (pl := pl) (thn (ho.run pins s σ H _ I h) fun u s1 ⟨y, H1, I1, ry, a, dx, fs, ey, ea, l, q⟩ => ?_) ht⟩
  subst ey
  cases (show u = Value.ref a from ry)
  refine getmeth_ok I1 ea c hm l (PySem.W.callWith_K (first := [.ref a]) (h₀ := X.base) I.ok.mod.kin hm.kp (thn (ha.run pos pins s1 σ H1 _ I1 q) fun us s2 ⟨vs, H2, I2, r, pp, ecl, ews, q2⟩ => ⟨I2.kIn, ?_⟩) he hpl)
  have rr : Vals (V.ref a :: vs) (Value.ref a :: us) := .cons rfl r
  have hl : (Value.ref a :: us).length = ps.length := rr.length.symm.trans (F.len _ _ _ _ _ q2)
  have b := hb s2 (Value.ref a :: us) I2.kIn (by rw [List.append_nil]; exact hl)
  rw [List.append_nil] at b
  have hd := hand_of I2 (cp I2.ok) hfn
  rw [← ecl, ← ews] at hd
  refine wpAny_call (codeAny_mono (F.run pp X.A X.stack s2 H2 _ _ _ Q E0 hr I2.env0 b rr hd q2) fun res s' hq => ?_)
  cases res with
  | error e => exact hq.elim
  | ok fl =>
    cases fl with
    | ret u => exact I2.after hq
    | next => cases hq
    | brk => cases hq
    | cont => cases hq
/-- f(e, ..), f a name that holds a function that was handed here -/
def tCb (f : Addr) (F : NdefX.NF) (i : Nat) (ws : List (Option V)) (sp : List (Option V) → Sp) (t : TA) : TE := fun σ H Q => σ[i]? = some (some (.ref f)) ∧ H f = some (NdefX.FnO f F) ∧ t σ H fun vs H1 => H1 f = some (NdefX.FnO f F) ∧ H1 F.c = some (LamX.CodeO F.c F.qual) ∧ sp ws vs H1 Q E0
theorem pe_cb {f : Addr} {F : NdefX.NF} {ps fr : List Str} {ws : List (Option V)} {sp : List (Option V) → Sp} {i j : Nat} {x : Str} (Fn : NdefX.NOk X.prog X.w X.K X.mg X.base CX0 j f F ps fr sp) (hd : Hand F.cl fr ws X.outer X.s_0.heap X.H_0) (hex : X.ex = []) (hr : Room k X.A) (hk : j ≤ k)
    (hN : X.N[i]? = some x) (hv : Vis X.env.scope x) (ha : PA X (e :: es) t)
    (hdb : (x == ("__debug__" : Str)) = false := by decide) (hcd : (x == ("__classdict__" : Str)) = false := by decide)
    (he : starEach (e :: es) X.env = (false, eval e X.env) :: starEach es X.env := by rfl) (hpl : (backTo pos (starEach es X.env)).any (·.1) = false := by rfl) :
    PE X (.Call (.Name x p) (e :: es) [] pos) (tCb f F i ws sp t) := by
  refine ⟨fun pins s σ H Q I ⟨hs, hf, h⟩ => ?_⟩
  refine wpAny_Call_Name_kw (thn ((pe_var (pos := p) hN hv hdb hcd).run pins s σ H (fun v H1 => v = .ref f ∧ H1 = H) I ⟨.ref f, hs, rfl, rfl⟩) fun u s1 ⟨v, H1, I1, r1, ev, eH⟩ => ?_)
  subst ev eH
  cases (show u = Value.ref f from r1)
  refine PySem.W.callWith_F (first := []) (NdefX.fnAt_of I1 hf) (thn (ha.run pos pins s1 σ _ _ I1 h) fun us s2 ⟨vs, H2, I2, r, h1, h2, q⟩ => ⟨NdefX.fnAt_of I2 h1, ?_⟩) he hpl
  have C2 := hd.c.later (X := X) (fun y a z => hd.nf y a z) (fun y a z => by rw [hex]; simp) I2
  refine wpAny_call (codeAny_mono (Fn.run X.A X.stack s2 H2 us vs ws Q E0 (hr.mono hk) I2.env0 h1 h2 C2 r q) fun res s' hq => ?_)
  cases res with
  | error e => exact hq.elim
  | ok fl =>
    cases fl with
    | ret u => exact I2.after hq
    | next => cases hq
    | brk => cases hq
    | cont => cases hq
end
/-! ### the table of the defs made in a def -/
structure TbW (H : Hp) (T : Addr) (nm : Nat → Nat → Str) (G : Addr → Prop) : Prop where
  ng : ¬ G T
  at_ : ∃ ps : Array Value, H T = some (.tbl ps) ∧ PySem.TriplesOk ps.toList ∧ ∀ (pos : Pos) (cv : Value), codeAmong pos ps.toList = some cv → ∃ c, cv = .ref c ∧ H c = some (LamX.CodeO c (nm pos.line pos.col)) ∧ ¬ G c
theorem codeO_fix {c : Addr} {q : Str} : ¬ Fix (LamX.CodeO c q) := id
theorem TbW.nil {H : Hp} {T : Addr} {nm : Nat → Nat → Str} {G : Addr → Prop} (h : H T = some (.tbl #[])) (n : ¬ G T) : TbW H T nm G := ⟨n, #[], h, trivial, fun pos cv e => by cases e⟩
theorem TbW.kp {F : Addr → Prop} {H H' : Hp} {T : Addr} {nm : Nat → Nat → Str} {G : Addr → Prop} (h : TbW H T nm G) (k : Kp F H H') (n : ∀ b, F b → G b) : TbW H' T nm G := by
  obtain ⟨ng, ps, h1, h2, h3⟩ := h
  refine ⟨ng, ps, k.get h1 fun z => ng (n _ z), h2, fun pos cv e => ?_⟩
  obtain ⟨c, ec, hc, nc⟩ := h3 pos cv e
  exact ⟨c, ec, k.get hc fun z => nc (n _ z), nc⟩
theorem TbW.own {H : Hp} {T : Addr} {nm : Nat → Nat → Str} {G G' : Addr → Prop} (h : TbW H T nm G) (n : ∀ b, G' b → G b ∨ H b = none) : TbW H T nm G' := by
  obtain ⟨ng, ps, h1, h2, h3⟩ := h
  have o : ∀ {b u}, H b = some u → ¬ G b → ¬ G' b := fun {b u} e g z => by
    rcases n b z with y | y
    · exact g y
    · rw [e] at y; cases y
  refine ⟨o h1 ng, ps, h1, h2, fun pos cv e => ?_⟩
  obtain ⟨c, ec, hc, nc⟩ := h3 pos cv e
  exact ⟨c, ec, hc, o hc nc⟩
/-- the reading of a def in a def: the table alone is written -/
def tNd (T : Addr) (nm : Nat → Nat → Str) (i : Nat) (mk : Addr → NdefX.NF) : TS := fun D σ H => ∃ G, TbW H T nm G ∧ (∀ b, H b = none → ¬ G b) ∧ ∀ (f c' : Addr) (H1 : Hp), Kp (F1 T) H H1 → H f = none → H1 f = some (NdefX.FnO f (mk c')) → H1 c' = some (LamX.CodeO c' (mk c').qual) → ¬ G c' → c' ≠ T → TbW H1 T nm G → D.nx (σ.set i (some (.ref f))) H1
section
open PySem.Spec PyProof.Rows
variable {X : Cx}
theorem among_new {pos q : Pos} {c cv : Value} : ∀ (l : List Value), PySem.TriplesOk l → codeAmong q (l ++ [rawInt pos.line, rawInt pos.col, c]) = some cv → codeAmong q l = some cv ∨ (cv = c ∧ pos.line = q.line ∧ pos.col = q.col) := fun l => NdefX.among_app2 l
theorem ps_nd {st : Stmt} {T c : Addr} {nm : Nat → Nat → Str} {name : Str} {pos : Pos} {i : Nat} (hst : st = .FunctionDef name (C8.fnArgs st) (C8.fnBody st) [] none [] (C8.fnScope st) none name pos) (TB : LamX.TabB X.base X.mg c T) (hcode : X.env.code = .ref c) (hn : nm pos.line pos.col = X.env.qual ++ name)
    (hfree : ∀ y ∈ (C8.fnScope st).names, y.2 = .free → X.env.scope.names.lookup y.1 = some .cell ∨ X.env.scope.names.lookup y.1 = some .free) (hd0 : (C8.fnArgs st).defaults = []) (hk0 : (C8.fnArgs st).kw_defaults = []) (ha : annTrees (C8.fnArgs st) none X.env = [])
    (hN : X.N.Nodup) (hi : X.N[i]? = some name) (hx : Loc X.env.scope name) (hf : X.fn name = true ∨ X.env.scope.names.lookup name = some .local) :
    PS X st (tNd T nm i (NdefX.NF.of st name (X.env.qual ++ name) (cloFrom X.env.cells (C8.fnScope st).names []))) := by
  have main : PS X (.FunctionDef name (C8.fnArgs st) (C8.fnBody st) [] none [] (C8.fnScope st) none name pos) (tNd T nm i (NdefX.NF.of st name (X.env.qual ++ name) (cloFrom X.env.cells (C8.fnScope st).names []))) := by
    refine ⟨fun pins s σ H D I h => ?_⟩
    obtain ⟨G, tb, nG, h⟩ := h
    have qn : qualnameIn X.env name name = X.env.qual ++ name := by
      have kd : X.env.kindOf name = some .local ∨ X.env.kindOf name = some .cell := hx
      unfold qualnameIn
      cases kd with
      | inl z => rw [z]; exact if_neg (by decide)
      | inr z => rw [z] <;> first | rfl | exact if_neg (by decide)
    refine PySem.W.nestDef_K hd0 hk0 ha ?_
    rw [qn]
    have hfr : ∀ y ∈ (C8.fnScope st).names, y.2 = .free → ∃ c, X.env.cells.lookup y.1 = some c := fun y hy e => by
      cases hfree y hy e with
      | inl z => exact I.ok.has _ (.inl z)
      | inr z => exact I.ok.has _ (.inr z)
    obtain ⟨ng, ps, hP, tri, am⟩ := tb
    have bT := TB.bm.keeps I.bk
    have hP' := I.hok T _ hP
    have fin : ∀ {f c' : Addr} {H1 : Hp} {s' : Shared}, Inv X pins σ H1 s' → Kp (F1 T) H H1 → H f = none → H1 f = some (NdefX.FnO f (NdefX.NF.of st name (X.env.qual ++ name) (cloFrom X.env.cells (C8.fnScope st).names []) c')) → H1 c' = some (LamX.CodeO c' (X.env.qual ++ name)) → ¬ G c' → c' ≠ T → TbW H1 T nm G → wpAny (model X.prog X.w) X.A (storeName X.env name (.ref f)) (fun _ s'' => SP X pins D .next s'') X.xe s' := fun {f c' H1 s'} I1 k f0 f1 c1 g1 n1 t1 =>
      store_ok I1 hN hi hx (v := .ref f) rfl (fun s'' J => ⟨_, H1, J, h f c' H1 k f0 f1 c1 g1 n1 t1⟩) hf
    cases hc : codeAmong pos ps.toList with
    | some cv =>
      obtain ⟨c', rfl, hco, gc⟩ := am pos cv hc
      rw [hn] at hco
      refine PySem.W.makeFunction_hit (mg := X.mg) (P := T) (ps := ps) (closure_ok hfr) I.ok.glob (I.mod.glob.keeps I.bk) hcode (TB.code.keeps I.bk) hP' tri hc bT fun ctv doc h' tk old _ => ?_
      have I1 : Inv X pins σ H { s with heap := h', toks := tk } := I.kept old
      have nF := I1.hok.fresh (Nat.le_refl h'.objs.size)
      have nF : H h'.objs.size = none := nF
      have I2 := NdefX.inv_fn (F := NdefX.NF.of st name (X.env.qual ++ name) (cloFrom X.env.cells (C8.fnScope st).names []) c') (t' := tk) (doc := doc) (pm := (X.mg "__name__").getD .none) (ctv := ctv) I1 rfl
      have kk : Kp F0 H (upd H h'.objs.size (NdefX.FnO h'.objs.size (NdefX.NF.of st name (X.env.qual ++ name) (cloFrom X.env.cells (C8.fnScope st).names []) c'))) := Kp.new nF
      exact fin I2 (kk.mono fun _ z => z.elim) nF upd_same (kk.get hco id) gc (ne_of hco hP fun z => LamX.codeO_ne ps z) (TbW.kp ⟨ng, ps, hP, tri, am⟩ kk fun _ z => z.elim)
    | none =>
      refine PySem.W.makeFunction_K (mg := X.mg) (P := T) (ps := ps) (closure_ok hfr) I.ok.glob (I.mod.glob.keeps I.bk) hcode (TB.code.keeps I.bk) hP' tri hc TB.gP bT fun c' ctv doc h' tk old hge hlt hrec htb => ?_
      obtain ⟨c2, oc, vs, tt, e2, hoc, hd, hv⟩ := hrec
      cases e2
      have nC : H c' = none := I.hok.fresh hge
      have I1 := LamX.inv_table (t' := tk) (more := #[rawInt pos.line, rawInt pos.col, .ref c']) (h' := h') I hP (fun b o hb e => old b o hb e) htb hge ⟨oc, vs, tt, hoc, hd, hv⟩
      have nPc : T ≠ c' := ne_of_none hP nC
      have k1 : Kp (F1 T) H (upd H T (.tbl (ps ++ #[rawInt pos.line, rawInt pos.col, .ref c']))) := Kp.put hP id
      have nC1 : (upd H T (.tbl (ps ++ #[rawInt pos.line, rawInt pos.col, .ref c'])) : Hp) c' = none := by rw [upd_ne nPc.symm]; exact nC
      have k2 := k1.trans (Kp.new (o := LamX.CodeO c' (X.env.qual ++ name)) nC1) fun _ z => z.elim
      have hT2 : (upd (upd H T (.tbl (ps ++ #[rawInt pos.line, rawInt pos.col, .ref c']))) c' (LamX.CodeO c' (X.env.qual ++ name)) : Hp) T = some (.tbl (ps ++ #[rawInt pos.line, rawInt pos.col, .ref c'])) := by rw [upd_ne nPc]; exact upd_same
      have hC2 : (upd (upd H T (.tbl (ps ++ #[rawInt pos.line, rawInt pos.col, .ref c']))) c' (LamX.CodeO c' (X.env.qual ++ name)) : Hp) c' = some (LamX.CodeO c' (X.env.qual ++ name)) := upd_same
      generalize upd (upd H T (.tbl (ps ++ #[rawInt pos.line, rawInt pos.col, .ref c']))) c' (LamX.CodeO c' (X.env.qual ++ name)) = H2 at I1 k2 hT2 hC2
      have nF : H2 h'.objs.size = none := I1.hok.fresh (Nat.le_refl h'.objs.size)
      have I2 := NdefX.inv_fn (F := NdefX.NF.of st name (X.env.qual ++ name) (cloFrom X.env.cells (C8.fnScope st).names []) c') (t' := tk) (doc := doc) (pm := (X.mg "__name__").getD .none) (ctv := ctv) I1 rfl
      have kk : Kp F0 H2 (upd H2 h'.objs.size (NdefX.FnO h'.objs.size (NdefX.NF.of st name (X.env.qual ++ name) (cloFrom X.env.cells (C8.fnScope st).names []) c'))) := Kp.new nF
      have t2 : TbW H2 T nm G := by
        refine ⟨ng, _, hT2, ?_, fun q cv hcv => ?_⟩
        · rw [Array.toList_append]
          exact PySem.TriplesOk_snoc _ _ _ _ tri
        · rw [Array.toList_append] at hcv
          cases among_new _ tri hcv with
          | inl z =>
            obtain ⟨c0, e1, e2, e3⟩ := am q cv z
            exact ⟨c0, e1, k2.get e2 (ne_of e2 hP fun z => LamX.codeO_ne ps z), e3⟩
          | inr z =>
            obtain ⟨z, z1, z2⟩ := z
            refine ⟨c', z, ?_, nG c' nC⟩
            rw [← z1, ← z2, hn]
            exact hC2
      have nFH : H h'.objs.size = none := I.hok.fresh (Nat.le_trans hge (Nat.le_of_lt hlt))
      exact fin I2 (k2.trans kk fun _ z => z.elim) nFH upd_same (kk.get hC2 id) (nG c' nC) nPc.symm (t2.kp kk fun _ z => z.elim)
  rw [← hst] at main
  exact main
end
def sub1 : Stmt → List Stmt
  | .For (body := b) .. => b
  | .While (body := b) .. => b
  | .If (body := b) .. => b
  | _ => []
/-- a def whose code object is known -/
structure FunC (K : PySem.W.Frag) (x qual : Str) (st : Stmt) (f : Addr) (fd : FuncData) (cc : Addr) : Prop where
  ex : ∃ (oc : Value) (od : Option Addr) (kV doc pm : Value) (an : Option Addr) (ct : Value) (osl : Array (Option Value)),
    fd = PySem.W.fnOf x qual (defArgs st) (defBody st) (defScope st) .none kV doc pm an (.ref cc) ct ∧ K.lookup f = some ⟨oc, od, .func fd, osl⟩ ∧ PySem.W.codeIn K (.ref cc) qual = true
  kp : PySem.W.keepIn K (.ref f) = true
section
open PySem.Spec PyProof.Rows
variable {P : Program} {w : World} {K : PySem.W.Frag} {mg : Str → Option Value} {base : Heap}
theorem FunC.fn {x qual : Str} {st : Stmt} {f : Addr} {fd : FuncData} {cc : Addr} (F : FunC K x qual st f fd cc) : Fun K x qual st f fd := by
  obtain ⟨oc, od, kV, doc, pm, an, ct, osl, e, lk, hcd⟩ := F.ex
  exact ⟨⟨oc, od, kV, doc, pm, an, _, ct, osl, e, lk, hcd⟩, F.kp⟩
theorem okC {x qual : Str} {st : Stmt} {f : Addr} {fd : FuncData} {cc : Addr} {N ps : List Str} {k : Nat} {sp : Sp} (F : FunC K x qual st f fd cc) (S : FnScope N ps (defScope st)) (len : ∀ vs H Q E, sp vs H Q E → vs.length = ps.length)
    (hb : ∀ (A : Around) (outer : List Env) (s : Shared) (H : Hp) (vs : List V) (Q : VK) (E : XK), Room k (A.deeper (PyProof.Rows.envOfC qual (defScope st) s.heap.objs.size f (.ref cc))) → sp vs H Q E →
      ∃ t, PSs (cxOf CX0 P w K mg base N qual (defScope st) f (.ref cc) A outer s H E).nox (defBody st) t ∧ t { nx := fun _ H' => Q .non H', rt := Q } (start N vs) H) : FnOk P w K mg base CX0 (k + 1) f fd ps sp := by
  obtain ⟨oc, od, kV, doc, pm, an, ct, osl, rfl, lk, hcd⟩ := F.ex
  exact fn_of lk hcd S len fun A outer s H vs Q E hr h => by
    obtain ⟨t, ht, q⟩ := hb A outer s H vs Q E hr h
    exact ⟨t, ht.nox, q⟩
/-- a list that is written nowhere may be known as it is -/
theorem FnOk.frz {k : Nat} {f : Addr} {fd : FuncData} {x : Str} {T : Addr} {n : Nat} (F : FnOk P w K mg base CX0 k f fd [x] (fun vs H Q _ => ∃ (a : Addr) (ns : List Int), vs = [.ref a] ∧ Sc K H a ns ∧ ns.length ≤ n ∧ H T = some (.tbl #[]) ∧ ∀ H', Q (.bl true) H')) :
    FnOk P w K mg base CX0 k f fd [x] (fun vs H Q _ => ∃ (a : Addr) (ns : List Int), vs = [.ref a] ∧ SqL K H a (ns.map V.int) ∧ ns.length ≤ n ∧ H T = some (.tbl #[]) ∧ ∀ H', Q (.bl true) H') := by
  refine ⟨fun vs H Q E ⟨a, ns, h, _⟩ => by rw [h]; rfl, fun A outer s H args us vs Q E hr e0 hb r h => ?_⟩
  obtain ⟨a, ns, rfl, hs, hl, hT, q⟩ := h
  rcases hs with (h | ⟨o, h⟩) | h
  · obtain ⟨z, its, m, rv, ho⟩ := e0.hok a _ h
    have nb : ∀ b, H b = none → b ≠ a := fun b e => (ne_of_none h e).symm
    have at1 : ∀ b, b ≠ a → (upd H a (.frz { cls := .type "list", data := .seq its.toArray m } (.lst (ns.map V.int)))) b = H b := fun b e => upd_ne e
    have same : (upd H a (.frz { cls := .type "list", data := .seq its.toArray m } (.lst (ns.map V.int))) : Hp) a = some (.frz { cls := .type "list", data := .seq its.toArray m } (.lst (ns.map V.int))) := upd_same
    generalize upd H a (.frz { cls := .type "list", data := .seq its.toArray m } (.lst (ns.map V.int))) = H1 at at1 same
    have free : ∀ b, H b = none → H1 b = none := fun b e => by rw [at1 b (nb b e)]; exact e
    have nT : T ≠ a := ne_of hT h fun z => by cases z
    have e1 : Env0 P w K mg base A outer s H1 := by
      refine ⟨e0.frames, e0.mod, fun b ob e => ⟨(e0.bs b ob e).1, free b (e0.bs b ob e).2⟩, e0.bsz, e0.funs, fun b hb => free b (e0.frf b hb), fun b u e => ?_, e0.bare⟩
      by_cases c : b = a
      · rw [c, same] at e
        cases e
        rw [c]
        exact ⟨ho, z, its, m, rv, ho⟩
      · rw [at1 b c] at e
        refine (e0.hok b u e).stay (fun _ _ _ q => q) (fun d q => ?_) fun d xs q => ?_
        · rw [at1 d (ne_of q h fun z => by cases z)]; exact q
        · rw [at1 d (ne_of q h fun z => by cases z)]; exact q
    refine codeAny_mono (F.run A outer s H1 args us [.ref a] Q E hr e1 hb r ⟨a, ns, rfl, .inl ⟨_, same⟩, hl, by rw [at1 T nT]; exact hT, q⟩) fun res s' hq => ?_
    cases res with
    | error e => exact hq
    | ok fl =>
      cases fl with
      | next => exact hq
      | brk => exact hq
      | cont => exact hq
      | ret u =>
        obtain ⟨v, H', os, bare, un, hok, rv', qq⟩ := hq
        refine ⟨v, H', os, bare, ⟨fun b ob e n h1 h2 => un.keep b ob e (free b n) h1 h2, fun b ob e n h1 h2 => un.slot b ob e (free b n) h1 h2, fun b ob e n h1 => un.free b ob e (free b n) h1, un.there, fun b xs e => un.tups b xs ?_, fun b ob u e => un.frzs b ob u ?_, fun b ps e => un.tbls b ps ?_⟩, hok, rv', qq⟩
        · rw [at1 b (ne_of e h fun z => by cases z)]; exact e
        · rw [at1 b (ne_of e h fun z => by cases z)]; exact e
        · rw [at1 b (ne_of e h fun z => by cases z)]; exact e
  · exact F.run A outer s H args us _ Q E hr e0 hb r ⟨a, ns, rfl, .inl ⟨o, h⟩, hl, hT, q⟩
  · exact F.run A outer s H args us _ Q E hr e0 hb r ⟨a, ns, rfl, .inr fun _ => .inr h, hl, hT, q⟩
end
/-- the known part without the table -/
def dropT (K : PySem.W.Frag) (T : Addr) : PySem.W.Frag := K.filter fun q => !(q.1 == T)
theorem dropT_at {K : PySem.W.Frag} {T a : Addr} : (dropT K T).lookup a = if a = T then none else K.lookup a := by
  unfold dropT
  induction K with
  | nil => rw [List.filter_nil]; split <;> rfl
  | cons q r ih =>
    obtain ⟨b, o⟩ := q
    by_cases e : b = T
    · rw [List.filter_cons_of_neg (by simp [e]), ih]
      by_cases c : a = T
      · rw [if_pos c, if_pos c]
      · rw [if_neg c, if_neg c, List.lookup_cons, show (a == b) = false by rw [e]; simpa using c]
    · rw [List.filter_cons_of_pos (by simp [e]), List.lookup_cons, List.lookup_cons]
      cases c : (a == b) with
      | true =>
        have : a = b := by simpa using c
        rw [if_neg (by rw [this]; exact e)]
      | false => exact ih
theorem dropT_in {K : PySem.W.Frag} {T : Addr} {h : Heap} (X : K.In h) : (dropT K T).In h := fun a o e => by
  rw [dropT_at] at e
  split at e
  · cases e
  · exact X a o e
theorem dropT_none {K : PySem.W.Frag} {T : Addr} : (dropT K T).lookup T = none := by rw [dropT_at, if_pos rfl]
/-- what every law promises that makes a def in a def -/
def sp_lawT (K : PySem.W.Frag) (T : Addr) : Sp := fun vs H Q _ => ∃ (a : Addr) (ns : List Int), vs = [.ref a] ∧ Sc K H a ns ∧ ns.length ≤ 63 ∧ H T = some (.tbl #[]) ∧ ∀ H', Q (.bl true) H'
/-! the text by places -/
def top (i : Nat) : Stmt := PySem.Challenge.pw_nearvault_k09_whole_nearest_items.main.body.getD i (.Pass ⟨0, 0, 0, 0⟩)
abbrev s__wall : Stmt := top 0
abbrev s_Device___init__ : Stmt := inClass (top 6) 0
abbrev s_Device_step : Stmt := inClass (top 6) 1
abbrev s_Device_write_page : Stmt := inClass (top 6) 2
abbrev s_Device_sync_pages : Stmt := inClass (top 6) 3
abbrev s_Device_append : Stmt := inClass (top 6) 4
abbrev s_Device_clear : Stmt := inClass (top 6) 5
abbrev s_Device_sync_log : Stmt := inClass (top 6) 6
abbrev s_Device_durable_page : Stmt := inClass (top 6) 7
abbrev s_Device_page : Stmt := inClass (top 6) 8
abbrev s_Device_log : Stmt := inClass (top 6) 9
abbrev s_Device_limit : Stmt := inClass (top 6) 10
abbrev s_Device_crash : Stmt := inClass (top 6) 11
abbrev s_Device_steps : Stmt := inClass (top 6) 12
abbrev s_Device_pending : Stmt := inClass (top 6) 13
abbrev s_distance : Stmt := top 9
abbrev s_write_number : Stmt := top 10
abbrev s_read_number : Stmt := top 11
abbrev s_write_point : Stmt := top 12
abbrev s_read_point : Stmt := top 13
abbrev s_filled : Stmt := top 15
abbrev s_pair_of_pivots : Stmt := top 20
abbrev s_MetricTree___init__ : Stmt := inClass (top 21) 0
abbrev s_MetricTree_load : Stmt := inClass (top 21) 1
abbrev s_MetricTree_store : Stmt := inClass (top 21) 2
abbrev s_MetricTree_point_of : Stmt := inClass (top 21) 3
abbrev s_MetricTree_radius_of : Stmt := inClass (top 21) 4
abbrev s_MetricTree_halves : Stmt := inClass (top 21) 5
abbrev s_MetricTree_save : Stmt := inClass (top 21) 6
abbrev s_MetricTree_insert : Stmt := inClass (top 21) 7
abbrev s_MetricTree_path_to : Stmt := inClass (top 21) 8
abbrev s_MetricTree_delete : Stmt := inClass (top 21) 9
abbrev s_MetricTree_lower : Stmt := inClass (top 21) 10
abbrev s_MetricTree_nearest : Stmt := inClass (top 21) 11
abbrev s_MetricTree_all_items : Stmt := inClass (top 21) 12
abbrev s_MetricTree_pages : Stmt := inClass (top 21) 13
abbrev s_read_groups : Stmt := top 24
abbrev s_Pager___init__ : Stmt := inClass (top 29) 0
abbrev s_Pager_count_head : Stmt := inClass (top 29) 1
abbrev s_Pager_read : Stmt := inClass (top 29) 2
abbrev s_Pager_write : Stmt := inClass (top 29) 3
abbrev s_Pager_field : Stmt := inClass (top 29) 4
abbrev s_Pager_set_field : Stmt := inClass (top 29) 5
abbrev s_Pager_allocate : Stmt := inClass (top 29) 6
abbrev s_Pager_release : Stmt := inClass (top 29) 7
abbrev s_Pager_commit : Stmt := inClass (top 29) 8
abbrev s_Pager_checkpoint : Stmt := inClass (top 29) 9
abbrev s_Pager_rollback : Stmt := inClass (top 29) 10
abbrev s__law_draw : Stmt := top 31
abbrev s__law_point : Stmt := top 32
abbrev s__law_spanned : Stmt := top 33
abbrev s__law_far : Stmt := top 34
abbrev s__law_built : Stmt := top 35
abbrev s__law_turned : Stmt := top 36
abbrev s_law : Stmt := top 37
theorem sc__wall : FnScope ["k"] ["k"] (defScope s__wall) := ⟨rfl, rfl, rfl, by decide +kernel, rfl, by decide +kernel, by decide +kernel⟩
theorem sc_Device___init__ : FnScope ["self"] ["self"] (defScope s_Device___init__) := ⟨rfl, rfl, rfl, by decide +kernel, rfl, by decide +kernel, by decide +kernel⟩
theorem sc_Device_step : FnScope ["self"] ["self"] (defScope s_Device_step) := ⟨rfl, rfl, rfl, by decide +kernel, rfl, by decide +kernel, by decide +kernel⟩
theorem sc_Device_write_page : FnScope ["self", "number", "data"] ["self", "number", "data"] (defScope s_Device_write_page) := ⟨rfl, rfl, rfl, by decide +kernel, rfl, by decide +kernel, by decide +kernel⟩
theorem sc_Device_sync_pages : FnScope ["self", "number", "data"] ["self"] (defScope s_Device_sync_pages) := ⟨rfl, rfl, rfl, by decide +kernel, rfl, by decide +kernel, by decide +kernel⟩
theorem sc_Device_append : FnScope ["self", "data", "byte"] ["self", "data"] (defScope s_Device_append) := ⟨rfl, rfl, rfl, by decide +kernel, rfl, by decide +kernel, by decide +kernel⟩
theorem sc_Device_clear : FnScope ["self"] ["self"] (defScope s_Device_clear) := ⟨rfl, rfl, rfl, by decide +kernel, rfl, by decide +kernel, by decide +kernel⟩
theorem sc_Device_sync_log : FnScope ["self"] ["self"] (defScope s_Device_sync_log) := ⟨rfl, rfl, rfl, by decide +kernel, rfl, by decide +kernel, by decide +kernel⟩
theorem sc_Device_durable_page : FnScope ["self", "number"] ["self", "number"] (defScope s_Device_durable_page) := ⟨rfl, rfl, rfl, by decide +kernel, rfl, by decide +kernel, by decide +kernel⟩
theorem sc_Device_page : FnScope ["self", "number", "other", "data"] ["self", "number"] (defScope s_Device_page) := ⟨rfl, rfl, rfl, by decide +kernel, rfl, by decide +kernel, by decide +kernel⟩
theorem sc_Device_log : FnScope ["self", "data", "byte"] ["self"] (defScope s_Device_log) := ⟨rfl, rfl, rfl, by decide +kernel, rfl, by decide +kernel, by decide +kernel⟩
theorem sc_Device_limit : FnScope ["self", "steps"] ["self", "steps"] (defScope s_Device_limit) := ⟨rfl, rfl, rfl, by decide +kernel, rfl, by decide +kernel, by decide +kernel⟩
theorem sc_Device_crash : FnScope ["self", "fates", "kept"] ["self", "fates", "kept"] (defScope s_Device_crash) := ⟨rfl, rfl, rfl, by decide +kernel, rfl, by decide +kernel, by decide +kernel⟩
theorem sc_Device_steps : FnScope ["self"] ["self"] (defScope s_Device_steps) := ⟨rfl, rfl, rfl, by decide +kernel, rfl, by decide +kernel, by decide +kernel⟩
theorem sc_Device_pending : FnScope ["self"] ["self"] (defScope s_Device_pending) := ⟨rfl, rfl, rfl, by decide +kernel, rfl, by decide +kernel, by decide +kernel⟩
theorem sc_distance : FnScope ["metric", "a", "b", "differences", "k", "difference"] ["metric", "a", "b"] (defScope s_distance) := ⟨rfl, rfl, rfl, by decide +kernel, rfl, by decide +kernel, by decide +kernel⟩
theorem sc_write_number : FnScope ["width", "number", "k"] ["width", "number"] (defScope s_write_number) := ⟨rfl, rfl, rfl, by decide +kernel, rfl, by decide +kernel, by decide +kernel⟩
theorem sc_read_number : FnScope ["data", "place", "width", "number", "byte"] ["data", "place", "width"] (defScope s_read_number) := ⟨rfl, rfl, rfl, by decide +kernel, rfl, by decide +kernel, by decide +kernel⟩
theorem sc_write_point : FnScope ["point", "data", "coordinate"] ["point"] (defScope s_write_point) := ⟨rfl, rfl, rfl, by decide +kernel, rfl, by decide +kernel, by decide +kernel⟩
theorem sc_read_point : FnScope ["data", "place", "dimensions", "k"] ["data", "place", "dimensions"] (defScope s_read_point) := ⟨rfl, rfl, rfl, by decide +kernel, rfl, by decide +kernel, by decide +kernel⟩
theorem sc_filled : FnScope ["data"] ["data"] (defScope s_filled) := ⟨rfl, rfl, rfl, by decide +kernel, rfl, by decide +kernel, by decide +kernel⟩
theorem sc_pair_of_pivots : FnScope ["points", "metric", "best", "i", "j"] ["points", "metric"] (defScope s_pair_of_pivots) := ⟨rfl, rfl, rfl, by decide +kernel, rfl, by decide +kernel, by decide +kernel⟩
theorem sc_MetricTree___init__ : FnScope ["self", "pager", "root", "dimensions", "metric"] ["self", "pager", "root", "dimensions", "metric"] (defScope s_MetricTree___init__) := ⟨rfl, rfl, rfl, by decide +kernel, rfl, by decide +kernel, by decide +kernel⟩
theorem sc_MetricTree_load : FnScope ["self", "number", "data", "size", "items", "place", "k", "key", "begin", "pivot", "radius"] ["self", "number"] (defScope s_MetricTree_load) := ⟨rfl, rfl, rfl, by decide +kernel, rfl, by decide +kernel, by decide +kernel⟩
theorem sc_MetricTree_store : FnScope ["self", "number", "kind", "items", "data", "item"] ["self", "number", "kind", "items"] (defScope s_MetricTree_store) := ⟨rfl, rfl, rfl, by decide +kernel, rfl, by decide +kernel, by decide +kernel⟩
theorem sc_MetricTree_point_of : FnScope ["self", "kind", "item"] ["self", "kind", "item"] (defScope s_MetricTree_point_of) := ⟨rfl, rfl, rfl, by decide +kernel, rfl, by decide +kernel, by decide +kernel⟩
theorem sc_MetricTree_radius_of : FnScope ["self", "pivot", "kind", "items", "radius", "item", "reach"] ["self", "pivot", "kind", "items"] (defScope s_MetricTree_radius_of) := ⟨rfl, rfl, rfl, by decide +kernel, rfl, by decide +kernel, by decide +kernel⟩
theorem sc_MetricTree_halves : FnScope ["self", "kind", "items", "points", "i", "j", "first", "second", "k", "near", "far", "item"] ["self", "kind", "items"] (defScope s_MetricTree_halves) := ⟨rfl, rfl, rfl, by decide +kernel, rfl, by decide +kernel, by decide +kernel⟩
theorem sc_MetricTree_save : FnScope ["self", "path", "number", "kind", "items", "pivot", "first", "other_pivot", "second", "other", "place_of_first", "children", "parent", "place"] ["self", "path", "number", "kind", "items"] (defScope s_MetricTree_save) := ⟨rfl, rfl, rfl, by decide +kernel, rfl, by decide +kernel, by decide +kernel⟩
theorem sc_MetricTree_insert : FnScope ["self", "item", "path", "number", "kind", "items", "reaches", "place", "pivot", "radius", "child"] ["self", "item"] (defScope s_MetricTree_insert) := ⟨rfl, rfl, rfl, by decide +kernel, rfl, by decide +kernel, by decide +kernel⟩
theorem sc_MetricTree_path_to : FnScope ["self", "item", "waiting", "path", "number", "kind", "items", "k"] ["self", "item"] (defScope s_MetricTree_path_to) := ⟨rfl, rfl, rfl, by decide +kernel, rfl, by decide +kernel, by decide +kernel⟩
theorem sc_MetricTree_delete : FnScope ["self", "item", "path", "number", "kind", "items", "place", "other"] ["self", "item"] (defScope s_MetricTree_delete) := ⟨rfl, rfl, rfl, by decide +kernel, rfl, by decide +kernel, by decide +kernel⟩
theorem sc_MetricTree_lower : FnScope ["self", "kind", "items", "child"] ["self"] (defScope s_MetricTree_lower) := ⟨rfl, rfl, rfl, by decide +kernel, rfl, by decide +kernel, by decide +kernel⟩
theorem sc_MetricTree_nearest : FnScope ["self", "point", "count", "accepts", "found", "waiting", "bound", "number", "kind", "items", "item", "reach"] ["self", "point", "count", "accepts"] (defScope s_MetricTree_nearest) := ⟨rfl, rfl, rfl, by decide +kernel, rfl, by decide +kernel, by decide +kernel⟩
theorem sc_MetricTree_all_items : FnScope ["self", "found", "number", "kind", "items"] ["self"] (defScope s_MetricTree_all_items) := ⟨rfl, rfl, rfl, by decide +kernel, rfl, by decide +kernel, by decide +kernel⟩
theorem sc_MetricTree_pages : FnScope ["self", "found", "waiting", "number", "kind", "items", "child"] ["self"] (defScope s_MetricTree_pages) := ⟨rfl, rfl, rfl, by decide +kernel, rfl, by decide +kernel, by decide +kernel⟩
theorem sc_read_groups : FnScope ["data", "groups", "place", "count", "pairs", "k", "start"] ["data"] (defScope s_read_groups) := ⟨rfl, rfl, rfl, by decide +kernel, rfl, by decide +kernel, by decide +kernel⟩
theorem sc_Pager___init__ : FnScope ["self", "device", "log", "pairs", "number", "data"] ["self", "device"] (defScope s_Pager___init__) := ⟨rfl, rfl, rfl, by decide +kernel, rfl, by decide +kernel, by decide +kernel⟩
theorem sc_Pager_count_head : FnScope ["self"] ["self"] (defScope s_Pager_count_head) := ⟨rfl, rfl, rfl, by decide +kernel, rfl, by decide +kernel, by decide +kernel⟩
theorem sc_Pager_read : FnScope ["self", "number"] ["self", "number"] (defScope s_Pager_read) := ⟨rfl, rfl, rfl, by decide +kernel, rfl, by decide +kernel, by decide +kernel⟩
theorem sc_Pager_write : FnScope ["self", "number", "data"] ["self", "number", "data"] (defScope s_Pager_write) := ⟨rfl, rfl, rfl, by decide +kernel, rfl, by decide +kernel, by decide +kernel⟩
theorem sc_Pager_field : FnScope ["self", "k"] ["self", "k"] (defScope s_Pager_field) := ⟨rfl, rfl, rfl, by decide +kernel, rfl, by decide +kernel, by decide +kernel⟩
theorem sc_Pager_set_field : FnScope ["self", "k", "number", "data"] ["self", "k", "number"] (defScope s_Pager_set_field) := ⟨rfl, rfl, rfl, by decide +kernel, rfl, by decide +kernel, by decide +kernel⟩
theorem sc_Pager_allocate : FnScope ["self", "number"] ["self"] (defScope s_Pager_allocate) := ⟨rfl, rfl, rfl, by decide +kernel, rfl, by decide +kernel, by decide +kernel⟩
theorem sc_Pager_release : FnScope ["self", "number"] ["self", "number"] (defScope s_Pager_release) := ⟨rfl, rfl, rfl, by decide +kernel, rfl, by decide +kernel, by decide +kernel⟩
theorem sc_Pager_commit : FnScope ["self"] ["self"] (defScope s_Pager_commit) := ⟨rfl, rfl, rfl, by decide +kernel, rfl, by decide +kernel, by decide +kernel⟩
theorem sc_Pager_checkpoint : FnScope ["self", "number"] ["self"] (defScope s_Pager_checkpoint) := ⟨rfl, rfl, rfl, by decide +kernel, rfl, by decide +kernel, by decide +kernel⟩
theorem sc_Pager_rollback : FnScope ["self"] ["self"] (defScope s_Pager_rollback) := ⟨rfl, rfl, rfl, by decide +kernel, rfl, by decide +kernel, by decide +kernel⟩
theorem sc__law_draw : FnScope ["_law_state", "_law_script", "_law_size", "_law_cell", "_law_mixed", "_law_digit"] ["_law_state", "_law_script", "_law_size"] (defScope s__law_draw) := ⟨rfl, rfl, rfl, by decide +kernel, rfl, by decide +kernel, by decide +kernel⟩
theorem sc__law_point : FnScope ["_law_state", "_law_script", "_law_many", "_law_span", "_law_k"] ["_law_state", "_law_script", "_law_many", "_law_span"] (defScope s__law_point) := ⟨rfl, rfl, rfl, by decide +kernel, rfl, by decide +kernel, by decide +kernel⟩
theorem sc__law_spanned : FnScope ["_law_state", "_law_script"] ["_law_state", "_law_script"] (defScope s__law_spanned) := ⟨rfl, rfl, rfl, by decide +kernel, rfl, by decide +kernel, by decide +kernel⟩
theorem sc__law_far : FnScope ["_law_metric", "_law_a", "_law_b", "_law_total", "_law_k", "_law_gap"] ["_law_metric", "_law_a", "_law_b"] (defScope s__law_far) := ⟨rfl, rfl, rfl, by decide +kernel, rfl, by decide +kernel, by decide +kernel⟩
theorem sc__law_built : FnScope ["_law_state", "_law_script", "_law_tree", "_law_many", "_law_span", "_law_model", "_law_total", "_law_k", "_law_point_here", "_law_begin", "_law_item"] ["_law_state", "_law_script", "_law_tree", "_law_many", "_law_span"] (defScope s__law_built) := ⟨rfl, rfl, rfl, by decide +kernel, rfl, by decide +kernel, by decide +kernel⟩
theorem sc__law_turned : FnScope ["_law_state", "_law_script", "_law_tree", "_law_model", "_law_turn", "_law_many", "_law_span", "_law_item"] ["_law_state", "_law_script", "_law_tree", "_law_model", "_law_turn", "_law_many", "_law_span"] (defScope s__law_turned) := ⟨rfl, rfl, rfl, by decide +kernel, rfl, by decide +kernel, by decide +kernel⟩
theorem sc_law : FnScope ["_law_script", "_law_state", "_law_many", "_law_span", "_law_metric", "_law_pager", "_law_root", "_law_tree", "_law_model", "_law_asked", "_law_turn", "_law_share", "_law_accepts", "_law_point_here", "_law_count", "_law_due", "_law_key", "_law_begin", "_law_place", "_law_used", "_law_found", "_law_pairs", "_law_item", "_law_pair"] ["_law_script"] (defScope s_law) := ⟨rfl, rfl, rfl, by decide +kernel, rfl, by decide +kernel, by decide +kernel⟩
abbrev s_law__law_accepts : Stmt := (sub1 ((defBody s_law).getD 9 (.Pass ⟨0, 0, 0, 0⟩))).getD 4 (.Pass ⟨0, 0, 0, 0⟩)
def fr_law__law_accepts : List Str := ["_law_share", "_law_asked"]
def qn_law__law_accepts : Str := (PyProof.Rows.envOfC "law" (defScope s_law) 0 0 .none).qual ++ "_law_accepts"
theorem sc_law__law_accepts : NdefX.NScope ["_law_key", "_law_begin", "_law_share", "_law_asked"] ["_law_key", "_law_begin"] fr_law__law_accepts (C8.fnScope s_law__law_accepts) := NdefX.nscope_by (by decide +kernel)
theorem nb_law__law_accepts : NdefX.ndefB (defScope s_law) (C8.fnScope s_law__law_accepts) fr_law__law_accepts = true := by decide +kernel
/-- the addresses of the classes -/
structure Cl where
  VaultError : Addr
  PowerCut : Addr
  Device : Addr
  MetricTree : Addr
  Pager : Addr
  nc : Addr
  nt : Addr
def F_Device1 (v0 : V) : List (Str × V) := [("pages", v0)]
def F_Device2 (v0 v1 : V) : List (Str × V) := [("pages", v0), ("page_writes", v1)]
def F_Device3 (v0 v1 v2 : V) : List (Str × V) := [("pages", v0), ("page_writes", v1), ("durable_log", v2)]
def F_Device4 (v0 v1 v2 v3 : V) : List (Str × V) := [("pages", v0), ("page_writes", v1), ("durable_log", v2), ("log_steps", v3)]
def F_Device5 (v0 v1 v2 v3 v4 : V) : List (Str × V) := [("pages", v0), ("page_writes", v1), ("durable_log", v2), ("log_steps", v3), ("done", v4)]
def F_Device (v0 v1 v2 v3 v4 v5 : V) : List (Str × V) := [("pages", v0), ("page_writes", v1), ("durable_log", v2), ("log_steps", v3), ("done", v4), ("most", v5)]
theorem lk_Device_pages {v0 v1 v2 v3 v4 v5 : V} : (F_Device v0 v1 v2 v3 v4 v5).lookup ("pages" : Str) = some v0 := by kernel_rfl
theorem pt_Device_pages {v0 v1 v2 v3 v4 v5 : V} {u : V} : putF "pages" u (F_Device v0 v1 v2 v3 v4 v5) = (F_Device u v1 v2 v3 v4 v5) := by kernel_rfl
theorem pi_Device_pages {v0 : V} : putF "pages" v0 ([] : List (Str × V)) = (F_Device1 v0) := by kernel_rfl
theorem ln_Device_1 {v0 : V} : (F_Device1 v0).length < 1000 := by show 1 < 1000; decide
theorem lk_Device_page_writes {v0 v1 v2 v3 v4 v5 : V} : (F_Device v0 v1 v2 v3 v4 v5).lookup ("page_writes" : Str) = some v1 := by kernel_rfl
theorem pt_Device_page_writes {v0 v1 v2 v3 v4 v5 : V} {u : V} : putF "page_writes" u (F_Device v0 v1 v2 v3 v4 v5) = (F_Device v0 u v2 v3 v4 v5) := by kernel_rfl
theorem pi_Device_page_writes {v0 v1 : V} : putF "page_writes" v1 (F_Device1 v0) = (F_Device2 v0 v1) := by kernel_rfl
theorem li_Device_pages_1 {v0 : V} : (F_Device1 v0).lookup ("pages" : Str) = some v0 := by kernel_rfl
theorem ln_Device_2 {v0 v1 : V} : (F_Device2 v0 v1).length < 1000 := by show 2 < 1000; decide
theorem lk_Device_durable_log {v0 v1 v2 v3 v4 v5 : V} : (F_Device v0 v1 v2 v3 v4 v5).lookup ("durable_log" : Str) = some v2 := by kernel_rfl
theorem pt_Device_durable_log {v0 v1 v2 v3 v4 v5 : V} {u : V} : putF "durable_log" u (F_Device v0 v1 v2 v3 v4 v5) = (F_Device v0 v1 u v3 v4 v5) := by kernel_rfl
theorem pi_Device_durable_log {v0 v1 v2 : V} : putF "durable_log" v2 (F_Device2 v0 v1) = (F_Device3 v0 v1 v2) := by kernel_rfl
theorem li_Device_pages_2 {v0 v1 : V} : (F_Device2 v0 v1).lookup ("pages" : Str) = some v0 := by kernel_rfl
theorem li_Device_page_writes_2 {v0 v1 : V} : (F_Device2 v0 v1).lookup ("page_writes" : Str) = some v1 := by kernel_rfl
theorem ln_Device_3 {v0 v1 v2 : V} : (F_Device3 v0 v1 v2).length < 1000 := by show 3 < 1000; decide
theorem lk_Device_log_steps {v0 v1 v2 v3 v4 v5 : V} : (F_Device v0 v1 v2 v3 v4 v5).lookup ("log_steps" : Str) = some v3 := by kernel_rfl
theorem pt_Device_log_steps {v0 v1 v2 v3 v4 v5 : V} {u : V} : putF "log_steps" u (F_Device v0 v1 v2 v3 v4 v5) = (F_Device v0 v1 v2 u v4 v5) := by kernel_rfl
theorem pi_Device_log_steps {v0 v1 v2 v3 : V} : putF "log_steps" v3 (F_Device3 v0 v1 v2) = (F_Device4 v0 v1 v2 v3) := by kernel_rfl
theorem li_Device_pages_3 {v0 v1 v2 : V} : (F_Device3 v0 v1 v2).lookup ("pages" : Str) = some v0 := by kernel_rfl
theorem li_Device_page_writes_3 {v0 v1 v2 : V} : (F_Device3 v0 v1 v2).lookup ("page_writes" : Str) = some v1 := by kernel_rfl
theorem li_Device_durable_log_3 {v0 v1 v2 : V} : (F_Device3 v0 v1 v2).lookup ("durable_log" : Str) = some v2 := by kernel_rfl
theorem ln_Device_4 {v0 v1 v2 v3 : V} : (F_Device4 v0 v1 v2 v3).length < 1000 := by show 4 < 1000; decide
theorem lk_Device_done {v0 v1 v2 v3 v4 v5 : V} : (F_Device v0 v1 v2 v3 v4 v5).lookup ("done" : Str) = some v4 := by kernel_rfl
theorem pt_Device_done {v0 v1 v2 v3 v4 v5 : V} {u : V} : putF "done" u (F_Device v0 v1 v2 v3 v4 v5) = (F_Device v0 v1 v2 v3 u v5) := by kernel_rfl
theorem pi_Device_done {v0 v1 v2 v3 v4 : V} : putF "done" v4 (F_Device4 v0 v1 v2 v3) = (F_Device5 v0 v1 v2 v3 v4) := by kernel_rfl
theorem li_Device_pages_4 {v0 v1 v2 v3 : V} : (F_Device4 v0 v1 v2 v3).lookup ("pages" : Str) = some v0 := by kernel_rfl
theorem li_Device_page_writes_4 {v0 v1 v2 v3 : V} : (F_Device4 v0 v1 v2 v3).lookup ("page_writes" : Str) = some v1 := by kernel_rfl
theorem li_Device_durable_log_4 {v0 v1 v2 v3 : V} : (F_Device4 v0 v1 v2 v3).lookup ("durable_log" : Str) = some v2 := by kernel_rfl
theorem li_Device_log_steps_4 {v0 v1 v2 v3 : V} : (F_Device4 v0 v1 v2 v3).lookup ("log_steps" : Str) = some v3 := by kernel_rfl
theorem ln_Device_5 {v0 v1 v2 v3 v4 : V} : (F_Device5 v0 v1 v2 v3 v4).length < 1000 := by show 5 < 1000; decide
theorem lk_Device_most {v0 v1 v2 v3 v4 v5 : V} : (F_Device v0 v1 v2 v3 v4 v5).lookup ("most" : Str) = some v5 := by kernel_rfl
theorem pt_Device_most {v0 v1 v2 v3 v4 v5 : V} {u : V} : putF "most" u (F_Device v0 v1 v2 v3 v4 v5) = (F_Device v0 v1 v2 v3 v4 u) := by kernel_rfl
theorem pi_Device_most {v0 v1 v2 v3 v4 v5 : V} : putF "most" v5 (F_Device5 v0 v1 v2 v3 v4) = (F_Device v0 v1 v2 v3 v4 v5) := by kernel_rfl
theorem li_Device_pages_5 {v0 v1 v2 v3 v4 : V} : (F_Device5 v0 v1 v2 v3 v4).lookup ("pages" : Str) = some v0 := by kernel_rfl
theorem li_Device_page_writes_5 {v0 v1 v2 v3 v4 : V} : (F_Device5 v0 v1 v2 v3 v4).lookup ("page_writes" : Str) = some v1 := by kernel_rfl
theorem li_Device_durable_log_5 {v0 v1 v2 v3 v4 : V} : (F_Device5 v0 v1 v2 v3 v4).lookup ("durable_log" : Str) = some v2 := by kernel_rfl
theorem li_Device_log_steps_5 {v0 v1 v2 v3 v4 : V} : (F_Device5 v0 v1 v2 v3 v4).lookup ("log_steps" : Str) = some v3 := by kernel_rfl
theorem li_Device_done_5 {v0 v1 v2 v3 v4 : V} : (F_Device5 v0 v1 v2 v3 v4).lookup ("done" : Str) = some v4 := by kernel_rfl
theorem ln_Device_6 {v0 v1 v2 v3 v4 v5 : V} : (F_Device v0 v1 v2 v3 v4 v5).length < 1000 := by show 6 < 1000; decide
theorem no_Device_step {v0 v1 v2 v3 v4 v5 : V} : (F_Device v0 v1 v2 v3 v4 v5).lookup ("step" : Str) = none := by kernel_rfl
theorem ni_Device_step_1 {v0 : V} : (F_Device1 v0).lookup ("step" : Str) = none := by kernel_rfl
theorem ni_Device_step_2 {v0 v1 : V} : (F_Device2 v0 v1).lookup ("step" : Str) = none := by kernel_rfl
theorem ni_Device_step_3 {v0 v1 v2 : V} : (F_Device3 v0 v1 v2).lookup ("step" : Str) = none := by kernel_rfl
theorem ni_Device_step_4 {v0 v1 v2 v3 : V} : (F_Device4 v0 v1 v2 v3).lookup ("step" : Str) = none := by kernel_rfl
theorem ni_Device_step_5 {v0 v1 v2 v3 v4 : V} : (F_Device5 v0 v1 v2 v3 v4).lookup ("step" : Str) = none := by kernel_rfl
theorem no_Device_write_page {v0 v1 v2 v3 v4 v5 : V} : (F_Device v0 v1 v2 v3 v4 v5).lookup ("write_page" : Str) = none := by kernel_rfl
theorem ni_Device_write_page_1 {v0 : V} : (F_Device1 v0).lookup ("write_page" : Str) = none := by kernel_rfl
theorem ni_Device_write_page_2 {v0 v1 : V} : (F_Device2 v0 v1).lookup ("write_page" : Str) = none := by kernel_rfl
theorem ni_Device_write_page_3 {v0 v1 v2 : V} : (F_Device3 v0 v1 v2).lookup ("write_page" : Str) = none := by kernel_rfl
theorem ni_Device_write_page_4 {v0 v1 v2 v3 : V} : (F_Device4 v0 v1 v2 v3).lookup ("write_page" : Str) = none := by kernel_rfl
theorem ni_Device_write_page_5 {v0 v1 v2 v3 v4 : V} : (F_Device5 v0 v1 v2 v3 v4).lookup ("write_page" : Str) = none := by kernel_rfl
theorem no_Device_sync_pages {v0 v1 v2 v3 v4 v5 : V} : (F_Device v0 v1 v2 v3 v4 v5).lookup ("sync_pages" : Str) = none := by kernel_rfl
theorem ni_Device_sync_pages_1 {v0 : V} : (F_Device1 v0).lookup ("sync_pages" : Str) = none := by kernel_rfl
theorem ni_Device_sync_pages_2 {v0 v1 : V} : (F_Device2 v0 v1).lookup ("sync_pages" : Str) = none := by kernel_rfl
theorem ni_Device_sync_pages_3 {v0 v1 v2 : V} : (F_Device3 v0 v1 v2).lookup ("sync_pages" : Str) = none := by kernel_rfl
theorem ni_Device_sync_pages_4 {v0 v1 v2 v3 : V} : (F_Device4 v0 v1 v2 v3).lookup ("sync_pages" : Str) = none := by kernel_rfl
theorem ni_Device_sync_pages_5 {v0 v1 v2 v3 v4 : V} : (F_Device5 v0 v1 v2 v3 v4).lookup ("sync_pages" : Str) = none := by kernel_rfl
theorem no_Device_append {v0 v1 v2 v3 v4 v5 : V} : (F_Device v0 v1 v2 v3 v4 v5).lookup ("append" : Str) = none := by kernel_rfl
theorem ni_Device_append_1 {v0 : V} : (F_Device1 v0).lookup ("append" : Str) = none := by kernel_rfl
theorem ni_Device_append_2 {v0 v1 : V} : (F_Device2 v0 v1).lookup ("append" : Str) = none := by kernel_rfl
theorem ni_Device_append_3 {v0 v1 v2 : V} : (F_Device3 v0 v1 v2).lookup ("append" : Str) = none := by kernel_rfl
theorem ni_Device_append_4 {v0 v1 v2 v3 : V} : (F_Device4 v0 v1 v2 v3).lookup ("append" : Str) = none := by kernel_rfl
theorem ni_Device_append_5 {v0 v1 v2 v3 v4 : V} : (F_Device5 v0 v1 v2 v3 v4).lookup ("append" : Str) = none := by kernel_rfl
theorem no_Device_clear {v0 v1 v2 v3 v4 v5 : V} : (F_Device v0 v1 v2 v3 v4 v5).lookup ("clear" : Str) = none := by kernel_rfl
theorem ni_Device_clear_1 {v0 : V} : (F_Device1 v0).lookup ("clear" : Str) = none := by kernel_rfl
theorem ni_Device_clear_2 {v0 v1 : V} : (F_Device2 v0 v1).lookup ("clear" : Str) = none := by kernel_rfl
theorem ni_Device_clear_3 {v0 v1 v2 : V} : (F_Device3 v0 v1 v2).lookup ("clear" : Str) = none := by kernel_rfl
theorem ni_Device_clear_4 {v0 v1 v2 v3 : V} : (F_Device4 v0 v1 v2 v3).lookup ("clear" : Str) = none := by kernel_rfl
theorem ni_Device_clear_5 {v0 v1 v2 v3 v4 : V} : (F_Device5 v0 v1 v2 v3 v4).lookup ("clear" : Str) = none := by kernel_rfl
theorem no_Device_sync_log {v0 v1 v2 v3 v4 v5 : V} : (F_Device v0 v1 v2 v3 v4 v5).lookup ("sync_log" : Str) = none := by kernel_rfl
theorem ni_Device_sync_log_1 {v0 : V} : (F_Device1 v0).lookup ("sync_log" : Str) = none := by kernel_rfl
theorem ni_Device_sync_log_2 {v0 v1 : V} : (F_Device2 v0 v1).lookup ("sync_log" : Str) = none := by kernel_rfl
theorem ni_Device_sync_log_3 {v0 v1 v2 : V} : (F_Device3 v0 v1 v2).lookup ("sync_log" : Str) = none := by kernel_rfl
theorem ni_Device_sync_log_4 {v0 v1 v2 v3 : V} : (F_Device4 v0 v1 v2 v3).lookup ("sync_log" : Str) = none := by kernel_rfl
theorem ni_Device_sync_log_5 {v0 v1 v2 v3 v4 : V} : (F_Device5 v0 v1 v2 v3 v4).lookup ("sync_log" : Str) = none := by kernel_rfl
theorem no_Device_durable_page {v0 v1 v2 v3 v4 v5 : V} : (F_Device v0 v1 v2 v3 v4 v5).lookup ("durable_page" : Str) = none := by kernel_rfl
theorem ni_Device_durable_page_1 {v0 : V} : (F_Device1 v0).lookup ("durable_page" : Str) = none := by kernel_rfl
theorem ni_Device_durable_page_2 {v0 v1 : V} : (F_Device2 v0 v1).lookup ("durable_page" : Str) = none := by kernel_rfl
theorem ni_Device_durable_page_3 {v0 v1 v2 : V} : (F_Device3 v0 v1 v2).lookup ("durable_page" : Str) = none := by kernel_rfl
theorem ni_Device_durable_page_4 {v0 v1 v2 v3 : V} : (F_Device4 v0 v1 v2 v3).lookup ("durable_page" : Str) = none := by kernel_rfl
theorem ni_Device_durable_page_5 {v0 v1 v2 v3 v4 : V} : (F_Device5 v0 v1 v2 v3 v4).lookup ("durable_page" : Str) = none := by kernel_rfl
theorem no_Device_page {v0 v1 v2 v3 v4 v5 : V} : (F_Device v0 v1 v2 v3 v4 v5).lookup ("page" : Str) = none := by kernel_rfl
theorem ni_Device_page_1 {v0 : V} : (F_Device1 v0).lookup ("page" : Str) = none := by kernel_rfl
theorem ni_Device_page_2 {v0 v1 : V} : (F_Device2 v0 v1).lookup ("page" : Str) = none := by kernel_rfl
theorem ni_Device_page_3 {v0 v1 v2 : V} : (F_Device3 v0 v1 v2).lookup ("page" : Str) = none := by kernel_rfl
theorem ni_Device_page_4 {v0 v1 v2 v3 : V} : (F_Device4 v0 v1 v2 v3).lookup ("page" : Str) = none := by kernel_rfl
theorem ni_Device_page_5 {v0 v1 v2 v3 v4 : V} : (F_Device5 v0 v1 v2 v3 v4).lookup ("page" : Str) = none := by kernel_rfl
theorem no_Device_log {v0 v1 v2 v3 v4 v5 : V} : (F_Device v0 v1 v2 v3 v4 v5).lookup ("log" : Str) = none := by kernel_rfl
theorem ni_Device_log_1 {v0 : V} : (F_Device1 v0).lookup ("log" : Str) = none := by kernel_rfl
theorem ni_Device_log_2 {v0 v1 : V} : (F_Device2 v0 v1).lookup ("log" : Str) = none := by kernel_rfl
theorem ni_Device_log_3 {v0 v1 v2 : V} : (F_Device3 v0 v1 v2).lookup ("log" : Str) = none := by kernel_rfl
theorem ni_Device_log_4 {v0 v1 v2 v3 : V} : (F_Device4 v0 v1 v2 v3).lookup ("log" : Str) = none := by kernel_rfl
theorem ni_Device_log_5 {v0 v1 v2 v3 v4 : V} : (F_Device5 v0 v1 v2 v3 v4).lookup ("log" : Str) = none := by kernel_rfl
theorem no_Device_limit {v0 v1 v2 v3 v4 v5 : V} : (F_Device v0 v1 v2 v3 v4 v5).lookup ("limit" : Str) = none := by kernel_rfl
theorem ni_Device_limit_1 {v0 : V} : (F_Device1 v0).lookup ("limit" : Str) = none := by kernel_rfl
theorem ni_Device_limit_2 {v0 v1 : V} : (F_Device2 v0 v1).lookup ("limit" : Str) = none := by kernel_rfl
theorem ni_Device_limit_3 {v0 v1 v2 : V} : (F_Device3 v0 v1 v2).lookup ("limit" : Str) = none := by kernel_rfl
theorem ni_Device_limit_4 {v0 v1 v2 v3 : V} : (F_Device4 v0 v1 v2 v3).lookup ("limit" : Str) = none := by kernel_rfl
theorem ni_Device_limit_5 {v0 v1 v2 v3 v4 : V} : (F_Device5 v0 v1 v2 v3 v4).lookup ("limit" : Str) = none := by kernel_rfl
theorem no_Device_crash {v0 v1 v2 v3 v4 v5 : V} : (F_Device v0 v1 v2 v3 v4 v5).lookup ("crash" : Str) = none := by kernel_rfl
theorem ni_Device_crash_1 {v0 : V} : (F_Device1 v0).lookup ("crash" : Str) = none := by kernel_rfl
theorem ni_Device_crash_2 {v0 v1 : V} : (F_Device2 v0 v1).lookup ("crash" : Str) = none := by kernel_rfl
theorem ni_Device_crash_3 {v0 v1 v2 : V} : (F_Device3 v0 v1 v2).lookup ("crash" : Str) = none := by kernel_rfl
theorem ni_Device_crash_4 {v0 v1 v2 v3 : V} : (F_Device4 v0 v1 v2 v3).lookup ("crash" : Str) = none := by kernel_rfl
theorem ni_Device_crash_5 {v0 v1 v2 v3 v4 : V} : (F_Device5 v0 v1 v2 v3 v4).lookup ("crash" : Str) = none := by kernel_rfl
theorem no_Device_steps {v0 v1 v2 v3 v4 v5 : V} : (F_Device v0 v1 v2 v3 v4 v5).lookup ("steps" : Str) = none := by kernel_rfl
theorem ni_Device_steps_1 {v0 : V} : (F_Device1 v0).lookup ("steps" : Str) = none := by kernel_rfl
theorem ni_Device_steps_2 {v0 v1 : V} : (F_Device2 v0 v1).lookup ("steps" : Str) = none := by kernel_rfl
theorem ni_Device_steps_3 {v0 v1 v2 : V} : (F_Device3 v0 v1 v2).lookup ("steps" : Str) = none := by kernel_rfl
theorem ni_Device_steps_4 {v0 v1 v2 v3 : V} : (F_Device4 v0 v1 v2 v3).lookup ("steps" : Str) = none := by kernel_rfl
theorem ni_Device_steps_5 {v0 v1 v2 v3 v4 : V} : (F_Device5 v0 v1 v2 v3 v4).lookup ("steps" : Str) = none := by kernel_rfl
theorem no_Device_pending {v0 v1 v2 v3 v4 v5 : V} : (F_Device v0 v1 v2 v3 v4 v5).lookup ("pending" : Str) = none := by kernel_rfl
theorem ni_Device_pending_1 {v0 : V} : (F_Device1 v0).lookup ("pending" : Str) = none := by kernel_rfl
theorem ni_Device_pending_2 {v0 v1 : V} : (F_Device2 v0 v1).lookup ("pending" : Str) = none := by kernel_rfl
theorem ni_Device_pending_3 {v0 v1 v2 : V} : (F_Device3 v0 v1 v2).lookup ("pending" : Str) = none := by kernel_rfl
theorem ni_Device_pending_4 {v0 v1 v2 v3 : V} : (F_Device4 v0 v1 v2 v3).lookup ("pending" : Str) = none := by kernel_rfl
theorem ni_Device_pending_5 {v0 v1 v2 v3 v4 : V} : (F_Device5 v0 v1 v2 v3 v4).lookup ("pending" : Str) = none := by kernel_rfl
def F_MetricTree1 (v0 : V) : List (Str × V) := [("pager", v0)]
def F_MetricTree2 (v0 v1 : V) : List (Str × V) := [("pager", v0), ("root", v1)]
def F_MetricTree3 (v0 v1 v2 : V) : List (Str × V) := [("pager", v0), ("root", v1), ("dimensions", v2)]
def F_MetricTree (v0 v1 v2 v3 : V) : List (Str × V) := [("pager", v0), ("root", v1), ("dimensions", v2), ("metric", v3)]
theorem lk_MetricTree_pager {v0 v1 v2 v3 : V} : (F_MetricTree v0 v1 v2 v3).lookup ("pager" : Str) = some v0 := by kernel_rfl
theorem pt_MetricTree_pager {v0 v1 v2 v3 : V} {u : V} : putF "pager" u (F_MetricTree v0 v1 v2 v3) = (F_MetricTree u v1 v2 v3) := by kernel_rfl
theorem pi_MetricTree_pager {v0 : V} : putF "pager" v0 ([] : List (Str × V)) = (F_MetricTree1 v0) := by kernel_rfl
theorem ln_MetricTree_1 {v0 : V} : (F_MetricTree1 v0).length < 1000 := by show 1 < 1000; decide
theorem lk_MetricTree_root {v0 v1 v2 v3 : V} : (F_MetricTree v0 v1 v2 v3).lookup ("root" : Str) = some v1 := by kernel_rfl
theorem pt_MetricTree_root {v0 v1 v2 v3 : V} {u : V} : putF "root" u (F_MetricTree v0 v1 v2 v3) = (F_MetricTree v0 u v2 v3) := by kernel_rfl
theorem pi_MetricTree_root {v0 v1 : V} : putF "root" v1 (F_MetricTree1 v0) = (F_MetricTree2 v0 v1) := by kernel_rfl
theorem li_MetricTree_pager_1 {v0 : V} : (F_MetricTree1 v0).lookup ("pager" : Str) = some v0 := by kernel_rfl
theorem ln_MetricTree_2 {v0 v1 : V} : (F_MetricTree2 v0 v1).length < 1000 := by show 2 < 1000; decide
theorem lk_MetricTree_dimensions {v0 v1 v2 v3 : V} : (F_MetricTree v0 v1 v2 v3).lookup ("dimensions" : Str) = some v2 := by kernel_rfl
theorem pt_MetricTree_dimensions {v0 v1 v2 v3 : V} {u : V} : putF "dimensions" u (F_MetricTree v0 v1 v2 v3) = (F_MetricTree v0 v1 u v3) := by kernel_rfl
theorem pi_MetricTree_dimensions {v0 v1 v2 : V} : putF "dimensions" v2 (F_MetricTree2 v0 v1) = (F_MetricTree3 v0 v1 v2) := by kernel_rfl
theorem li_MetricTree_pager_2 {v0 v1 : V} : (F_MetricTree2 v0 v1).lookup ("pager" : Str) = some v0 := by kernel_rfl
theorem li_MetricTree_root_2 {v0 v1 : V} : (F_MetricTree2 v0 v1).lookup ("root" : Str) = some v1 := by kernel_rfl
theorem ln_MetricTree_3 {v0 v1 v2 : V} : (F_MetricTree3 v0 v1 v2).length < 1000 := by show 3 < 1000; decide
theorem lk_MetricTree_metric {v0 v1 v2 v3 : V} : (F_MetricTree v0 v1 v2 v3).lookup ("metric" : Str) = some v3 := by kernel_rfl
theorem pt_MetricTree_metric {v0 v1 v2 v3 : V} {u : V} : putF "metric" u (F_MetricTree v0 v1 v2 v3) = (F_MetricTree v0 v1 v2 u) := by kernel_rfl
theorem pi_MetricTree_metric {v0 v1 v2 v3 : V} : putF "metric" v3 (F_MetricTree3 v0 v1 v2) = (F_MetricTree v0 v1 v2 v3) := by kernel_rfl
theorem li_MetricTree_pager_3 {v0 v1 v2 : V} : (F_MetricTree3 v0 v1 v2).lookup ("pager" : Str) = some v0 := by kernel_rfl
theorem li_MetricTree_root_3 {v0 v1 v2 : V} : (F_MetricTree3 v0 v1 v2).lookup ("root" : Str) = some v1 := by kernel_rfl
theorem li_MetricTree_dimensions_3 {v0 v1 v2 : V} : (F_MetricTree3 v0 v1 v2).lookup ("dimensions" : Str) = some v2 := by kernel_rfl
theorem ln_MetricTree_4 {v0 v1 v2 v3 : V} : (F_MetricTree v0 v1 v2 v3).length < 1000 := by show 4 < 1000; decide
theorem no_MetricTree_load {v0 v1 v2 v3 : V} : (F_MetricTree v0 v1 v2 v3).lookup ("load" : Str) = none := by kernel_rfl
theorem ni_MetricTree_load_1 {v0 : V} : (F_MetricTree1 v0).lookup ("load" : Str) = none := by kernel_rfl
theorem ni_MetricTree_load_2 {v0 v1 : V} : (F_MetricTree2 v0 v1).lookup ("load" : Str) = none := by kernel_rfl
theorem ni_MetricTree_load_3 {v0 v1 v2 : V} : (F_MetricTree3 v0 v1 v2).lookup ("load" : Str) = none := by kernel_rfl
theorem no_MetricTree_store {v0 v1 v2 v3 : V} : (F_MetricTree v0 v1 v2 v3).lookup ("store" : Str) = none := by kernel_rfl
theorem ni_MetricTree_store_1 {v0 : V} : (F_MetricTree1 v0).lookup ("store" : Str) = none := by kernel_rfl
theorem ni_MetricTree_store_2 {v0 v1 : V} : (F_MetricTree2 v0 v1).lookup ("store" : Str) = none := by kernel_rfl
theorem ni_MetricTree_store_3 {v0 v1 v2 : V} : (F_MetricTree3 v0 v1 v2).lookup ("store" : Str) = none := by kernel_rfl
theorem no_MetricTree_point_of {v0 v1 v2 v3 : V} : (F_MetricTree v0 v1 v2 v3).lookup ("point_of" : Str) = none := by kernel_rfl
theorem ni_MetricTree_point_of_1 {v0 : V} : (F_MetricTree1 v0).lookup ("point_of" : Str) = none := by kernel_rfl
theorem ni_MetricTree_point_of_2 {v0 v1 : V} : (F_MetricTree2 v0 v1).lookup ("point_of" : Str) = none := by kernel_rfl
theorem ni_MetricTree_point_of_3 {v0 v1 v2 : V} : (F_MetricTree3 v0 v1 v2).lookup ("point_of" : Str) = none := by kernel_rfl
theorem no_MetricTree_radius_of {v0 v1 v2 v3 : V} : (F_MetricTree v0 v1 v2 v3).lookup ("radius_of" : Str) = none := by kernel_rfl
theorem ni_MetricTree_radius_of_1 {v0 : V} : (F_MetricTree1 v0).lookup ("radius_of" : Str) = none := by kernel_rfl
theorem ni_MetricTree_radius_of_2 {v0 v1 : V} : (F_MetricTree2 v0 v1).lookup ("radius_of" : Str) = none := by kernel_rfl
theorem ni_MetricTree_radius_of_3 {v0 v1 v2 : V} : (F_MetricTree3 v0 v1 v2).lookup ("radius_of" : Str) = none := by kernel_rfl
theorem no_MetricTree_halves {v0 v1 v2 v3 : V} : (F_MetricTree v0 v1 v2 v3).lookup ("halves" : Str) = none := by kernel_rfl
theorem ni_MetricTree_halves_1 {v0 : V} : (F_MetricTree1 v0).lookup ("halves" : Str) = none := by kernel_rfl
theorem ni_MetricTree_halves_2 {v0 v1 : V} : (F_MetricTree2 v0 v1).lookup ("halves" : Str) = none := by kernel_rfl
theorem ni_MetricTree_halves_3 {v0 v1 v2 : V} : (F_MetricTree3 v0 v1 v2).lookup ("halves" : Str) = none := by kernel_rfl
theorem no_MetricTree_save {v0 v1 v2 v3 : V} : (F_MetricTree v0 v1 v2 v3).lookup ("save" : Str) = none := by kernel_rfl
theorem ni_MetricTree_save_1 {v0 : V} : (F_MetricTree1 v0).lookup ("save" : Str) = none := by kernel_rfl
theorem ni_MetricTree_save_2 {v0 v1 : V} : (F_MetricTree2 v0 v1).lookup ("save" : Str) = none := by kernel_rfl
theorem ni_MetricTree_save_3 {v0 v1 v2 : V} : (F_MetricTree3 v0 v1 v2).lookup ("save" : Str) = none := by kernel_rfl
theorem no_MetricTree_insert {v0 v1 v2 v3 : V} : (F_MetricTree v0 v1 v2 v3).lookup ("insert" : Str) = none := by kernel_rfl
theorem ni_MetricTree_insert_1 {v0 : V} : (F_MetricTree1 v0).lookup ("insert" : Str) = none := by kernel_rfl
theorem ni_MetricTree_insert_2 {v0 v1 : V} : (F_MetricTree2 v0 v1).lookup ("insert" : Str) = none := by kernel_rfl
theorem ni_MetricTree_insert_3 {v0 v1 v2 : V} : (F_MetricTree3 v0 v1 v2).lookup ("insert" : Str) = none := by kernel_rfl
theorem no_MetricTree_path_to {v0 v1 v2 v3 : V} : (F_MetricTree v0 v1 v2 v3).lookup ("path_to" : Str) = none := by kernel_rfl
theorem ni_MetricTree_path_to_1 {v0 : V} : (F_MetricTree1 v0).lookup ("path_to" : Str) = none := by kernel_rfl
theorem ni_MetricTree_path_to_2 {v0 v1 : V} : (F_MetricTree2 v0 v1).lookup ("path_to" : Str) = none := by kernel_rfl
theorem ni_MetricTree_path_to_3 {v0 v1 v2 : V} : (F_MetricTree3 v0 v1 v2).lookup ("path_to" : Str) = none := by kernel_rfl
theorem no_MetricTree_delete {v0 v1 v2 v3 : V} : (F_MetricTree v0 v1 v2 v3).lookup ("delete" : Str) = none := by kernel_rfl
theorem ni_MetricTree_delete_1 {v0 : V} : (F_MetricTree1 v0).lookup ("delete" : Str) = none := by kernel_rfl
theorem ni_MetricTree_delete_2 {v0 v1 : V} : (F_MetricTree2 v0 v1).lookup ("delete" : Str) = none := by kernel_rfl
theorem ni_MetricTree_delete_3 {v0 v1 v2 : V} : (F_MetricTree3 v0 v1 v2).lookup ("delete" : Str) = none := by kernel_rfl
theorem no_MetricTree_lower {v0 v1 v2 v3 : V} : (F_MetricTree v0 v1 v2 v3).lookup ("lower" : Str) = none := by kernel_rfl
theorem ni_MetricTree_lower_1 {v0 : V} : (F_MetricTree1 v0).lookup ("lower" : Str) = none := by kernel_rfl
theorem ni_MetricTree_lower_2 {v0 v1 : V} : (F_MetricTree2 v0 v1).lookup ("lower" : Str) = none := by kernel_rfl
theorem ni_MetricTree_lower_3 {v0 v1 v2 : V} : (F_MetricTree3 v0 v1 v2).lookup ("lower" : Str) = none := by kernel_rfl
theorem no_MetricTree_nearest {v0 v1 v2 v3 : V} : (F_MetricTree v0 v1 v2 v3).lookup ("nearest" : Str) = none := by kernel_rfl
theorem ni_MetricTree_nearest_1 {v0 : V} : (F_MetricTree1 v0).lookup ("nearest" : Str) = none := by kernel_rfl
theorem ni_MetricTree_nearest_2 {v0 v1 : V} : (F_MetricTree2 v0 v1).lookup ("nearest" : Str) = none := by kernel_rfl
theorem ni_MetricTree_nearest_3 {v0 v1 v2 : V} : (F_MetricTree3 v0 v1 v2).lookup ("nearest" : Str) = none := by kernel_rfl
theorem no_MetricTree_all_items {v0 v1 v2 v3 : V} : (F_MetricTree v0 v1 v2 v3).lookup ("all_items" : Str) = none := by kernel_rfl
theorem ni_MetricTree_all_items_1 {v0 : V} : (F_MetricTree1 v0).lookup ("all_items" : Str) = none := by kernel_rfl
theorem ni_MetricTree_all_items_2 {v0 v1 : V} : (F_MetricTree2 v0 v1).lookup ("all_items" : Str) = none := by kernel_rfl
theorem ni_MetricTree_all_items_3 {v0 v1 v2 : V} : (F_MetricTree3 v0 v1 v2).lookup ("all_items" : Str) = none := by kernel_rfl
theorem no_MetricTree_pages {v0 v1 v2 v3 : V} : (F_MetricTree v0 v1 v2 v3).lookup ("pages" : Str) = none := by kernel_rfl
theorem ni_MetricTree_pages_1 {v0 : V} : (F_MetricTree1 v0).lookup ("pages" : Str) = none := by kernel_rfl
theorem ni_MetricTree_pages_2 {v0 v1 : V} : (F_MetricTree2 v0 v1).lookup ("pages" : Str) = none := by kernel_rfl
theorem ni_MetricTree_pages_3 {v0 v1 v2 : V} : (F_MetricTree3 v0 v1 v2).lookup ("pages" : Str) = none := by kernel_rfl
def F_Pager1 (v0 : V) : List (Str × V) := [("device", v0)]
def F_Pager2 (v0 v1 : V) : List (Str × V) := [("device", v0), ("committed", v1)]
def F_Pager (v0 v1 v2 : V) : List (Str × V) := [("device", v0), ("committed", v1), ("dirty", v2)]
theorem lk_Pager_device {v0 v1 v2 : V} : (F_Pager v0 v1 v2).lookup ("device" : Str) = some v0 := by kernel_rfl
theorem pt_Pager_device {v0 v1 v2 : V} {u : V} : putF "device" u (F_Pager v0 v1 v2) = (F_Pager u v1 v2) := by kernel_rfl
theorem pi_Pager_device {v0 : V} : putF "device" v0 ([] : List (Str × V)) = (F_Pager1 v0) := by kernel_rfl
theorem ln_Pager_1 {v0 : V} : (F_Pager1 v0).length < 1000 := by show 1 < 1000; decide
theorem lk_Pager_committed {v0 v1 v2 : V} : (F_Pager v0 v1 v2).lookup ("committed" : Str) = some v1 := by kernel_rfl
theorem pt_Pager_committed {v0 v1 v2 : V} {u : V} : putF "committed" u (F_Pager v0 v1 v2) = (F_Pager v0 u v2) := by kernel_rfl
theorem pi_Pager_committed {v0 v1 : V} : putF "committed" v1 (F_Pager1 v0) = (F_Pager2 v0 v1) := by kernel_rfl
theorem li_Pager_device_1 {v0 : V} : (F_Pager1 v0).lookup ("device" : Str) = some v0 := by kernel_rfl
theorem ln_Pager_2 {v0 v1 : V} : (F_Pager2 v0 v1).length < 1000 := by show 2 < 1000; decide
theorem lk_Pager_dirty {v0 v1 v2 : V} : (F_Pager v0 v1 v2).lookup ("dirty" : Str) = some v2 := by kernel_rfl
theorem pt_Pager_dirty {v0 v1 v2 : V} {u : V} : putF "dirty" u (F_Pager v0 v1 v2) = (F_Pager v0 v1 u) := by kernel_rfl
theorem pi_Pager_dirty {v0 v1 v2 : V} : putF "dirty" v2 (F_Pager2 v0 v1) = (F_Pager v0 v1 v2) := by kernel_rfl
theorem li_Pager_device_2 {v0 v1 : V} : (F_Pager2 v0 v1).lookup ("device" : Str) = some v0 := by kernel_rfl
theorem li_Pager_committed_2 {v0 v1 : V} : (F_Pager2 v0 v1).lookup ("committed" : Str) = some v1 := by kernel_rfl
theorem ln_Pager_3 {v0 v1 v2 : V} : (F_Pager v0 v1 v2).length < 1000 := by show 3 < 1000; decide
theorem no_Pager_count_head {v0 v1 v2 : V} : (F_Pager v0 v1 v2).lookup ("count_head" : Str) = none := by kernel_rfl
theorem ni_Pager_count_head_1 {v0 : V} : (F_Pager1 v0).lookup ("count_head" : Str) = none := by kernel_rfl
theorem ni_Pager_count_head_2 {v0 v1 : V} : (F_Pager2 v0 v1).lookup ("count_head" : Str) = none := by kernel_rfl
theorem no_Pager_read {v0 v1 v2 : V} : (F_Pager v0 v1 v2).lookup ("read" : Str) = none := by kernel_rfl
theorem ni_Pager_read_1 {v0 : V} : (F_Pager1 v0).lookup ("read" : Str) = none := by kernel_rfl
theorem ni_Pager_read_2 {v0 v1 : V} : (F_Pager2 v0 v1).lookup ("read" : Str) = none := by kernel_rfl
theorem no_Pager_write {v0 v1 v2 : V} : (F_Pager v0 v1 v2).lookup ("write" : Str) = none := by kernel_rfl
theorem ni_Pager_write_1 {v0 : V} : (F_Pager1 v0).lookup ("write" : Str) = none := by kernel_rfl
theorem ni_Pager_write_2 {v0 v1 : V} : (F_Pager2 v0 v1).lookup ("write" : Str) = none := by kernel_rfl
theorem no_Pager_field {v0 v1 v2 : V} : (F_Pager v0 v1 v2).lookup ("field" : Str) = none := by kernel_rfl
theorem ni_Pager_field_1 {v0 : V} : (F_Pager1 v0).lookup ("field" : Str) = none := by kernel_rfl
theorem ni_Pager_field_2 {v0 v1 : V} : (F_Pager2 v0 v1).lookup ("field" : Str) = none := by kernel_rfl
theorem no_Pager_set_field {v0 v1 v2 : V} : (F_Pager v0 v1 v2).lookup ("set_field" : Str) = none := by kernel_rfl
theorem ni_Pager_set_field_1 {v0 : V} : (F_Pager1 v0).lookup ("set_field" : Str) = none := by kernel_rfl
theorem ni_Pager_set_field_2 {v0 v1 : V} : (F_Pager2 v0 v1).lookup ("set_field" : Str) = none := by kernel_rfl
theorem no_Pager_allocate {v0 v1 v2 : V} : (F_Pager v0 v1 v2).lookup ("allocate" : Str) = none := by kernel_rfl
theorem ni_Pager_allocate_1 {v0 : V} : (F_Pager1 v0).lookup ("allocate" : Str) = none := by kernel_rfl
theorem ni_Pager_allocate_2 {v0 v1 : V} : (F_Pager2 v0 v1).lookup ("allocate" : Str) = none := by kernel_rfl
theorem no_Pager_release {v0 v1 v2 : V} : (F_Pager v0 v1 v2).lookup ("release" : Str) = none := by kernel_rfl
theorem ni_Pager_release_1 {v0 : V} : (F_Pager1 v0).lookup ("release" : Str) = none := by kernel_rfl
theorem ni_Pager_release_2 {v0 v1 : V} : (F_Pager2 v0 v1).lookup ("release" : Str) = none := by kernel_rfl
theorem no_Pager_commit {v0 v1 v2 : V} : (F_Pager v0 v1 v2).lookup ("commit" : Str) = none := by kernel_rfl
theorem ni_Pager_commit_1 {v0 : V} : (F_Pager1 v0).lookup ("commit" : Str) = none := by kernel_rfl
theorem ni_Pager_commit_2 {v0 v1 : V} : (F_Pager2 v0 v1).lookup ("commit" : Str) = none := by kernel_rfl
theorem no_Pager_checkpoint {v0 v1 v2 : V} : (F_Pager v0 v1 v2).lookup ("checkpoint" : Str) = none := by kernel_rfl
theorem ni_Pager_checkpoint_1 {v0 : V} : (F_Pager1 v0).lookup ("checkpoint" : Str) = none := by kernel_rfl
theorem ni_Pager_checkpoint_2 {v0 v1 : V} : (F_Pager2 v0 v1).lookup ("checkpoint" : Str) = none := by kernel_rfl
theorem no_Pager_rollback {v0 v1 v2 : V} : (F_Pager v0 v1 v2).lookup ("rollback" : Str) = none := by kernel_rfl
theorem ni_Pager_rollback_1 {v0 : V} : (F_Pager1 v0).lookup ("rollback" : Str) = none := by kernel_rfl
theorem ni_Pager_rollback_2 {v0 v1 : V} : (F_Pager2 v0 v1).lookup ("rollback" : Str) = none := by kernel_rfl
local macro_rules | `(tactic| walk_at "lk") => `(tactic| with_reducible exact li_Pager_committed_2)
local macro_rules | `(tactic| walk_at "lk") => `(tactic| with_reducible exact li_Pager_device_2)
local macro_rules | `(tactic| walk_at "lk") => `(tactic| with_reducible exact lk_Pager_dirty)
local macro_rules | `(tactic| walk_at "lk") => `(tactic| with_reducible exact li_Pager_device_1)
local macro_rules | `(tactic| walk_at "lk") => `(tactic| with_reducible exact lk_Pager_committed)
local macro_rules | `(tactic| walk_at "lk") => `(tactic| with_reducible exact lk_Pager_device)
local macro_rules | `(tactic| walk_at "lk") => `(tactic| with_reducible exact li_MetricTree_dimensions_3)
local macro_rules | `(tactic| walk_at "lk") => `(tactic| with_reducible exact li_MetricTree_root_3)
local macro_rules | `(tactic| walk_at "lk") => `(tactic| with_reducible exact li_MetricTree_pager_3)
local macro_rules | `(tactic| walk_at "lk") => `(tactic| with_reducible exact lk_MetricTree_metric)
local macro_rules | `(tactic| walk_at "lk") => `(tactic| with_reducible exact li_MetricTree_root_2)
local macro_rules | `(tactic| walk_at "lk") => `(tactic| with_reducible exact li_MetricTree_pager_2)
local macro_rules | `(tactic| walk_at "lk") => `(tactic| with_reducible exact lk_MetricTree_dimensions)
local macro_rules | `(tactic| walk_at "lk") => `(tactic| with_reducible exact li_MetricTree_pager_1)
local macro_rules | `(tactic| walk_at "lk") => `(tactic| with_reducible exact lk_MetricTree_root)
local macro_rules | `(tactic| walk_at "lk") => `(tactic| with_reducible exact lk_MetricTree_pager)
local macro_rules | `(tactic| walk_at "lk") => `(tactic| with_reducible exact li_Device_done_5)
local macro_rules | `(tactic| walk_at "lk") => `(tactic| with_reducible exact li_Device_log_steps_5)
local macro_rules | `(tactic| walk_at "lk") => `(tactic| with_reducible exact li_Device_durable_log_5)
local macro_rules | `(tactic| walk_at "lk") => `(tactic| with_reducible exact li_Device_page_writes_5)
local macro_rules | `(tactic| walk_at "lk") => `(tactic| with_reducible exact li_Device_pages_5)
local macro_rules | `(tactic| walk_at "lk") => `(tactic| with_reducible exact lk_Device_most)
local macro_rules | `(tactic| walk_at "lk") => `(tactic| with_reducible exact li_Device_log_steps_4)
local macro_rules | `(tactic| walk_at "lk") => `(tactic| with_reducible exact li_Device_durable_log_4)
local macro_rules | `(tactic| walk_at "lk") => `(tactic| with_reducible exact li_Device_page_writes_4)
local macro_rules | `(tactic| walk_at "lk") => `(tactic| with_reducible exact li_Device_pages_4)
local macro_rules | `(tactic| walk_at "lk") => `(tactic| with_reducible exact lk_Device_done)
local macro_rules | `(tactic| walk_at "lk") => `(tactic| with_reducible exact li_Device_durable_log_3)
local macro_rules | `(tactic| walk_at "lk") => `(tactic| with_reducible exact li_Device_page_writes_3)
local macro_rules | `(tactic| walk_at "lk") => `(tactic| with_reducible exact li_Device_pages_3)
local macro_rules | `(tactic| walk_at "lk") => `(tactic| with_reducible exact lk_Device_log_steps)
local macro_rules | `(tactic| walk_at "lk") => `(tactic| with_reducible exact li_Device_page_writes_2)
local macro_rules | `(tactic| walk_at "lk") => `(tactic| with_reducible exact li_Device_pages_2)
local macro_rules | `(tactic| walk_at "lk") => `(tactic| with_reducible exact lk_Device_durable_log)
local macro_rules | `(tactic| walk_at "lk") => `(tactic| with_reducible exact li_Device_pages_1)
local macro_rules | `(tactic| walk_at "lk") => `(tactic| with_reducible exact lk_Device_page_writes)
local macro_rules | `(tactic| walk_at "lk") => `(tactic| with_reducible exact lk_Device_pages)
local macro_rules | `(tactic| walk_at "pt") => `(tactic| with_reducible exact pi_Pager_dirty)
local macro_rules | `(tactic| walk_at "pt") => `(tactic| with_reducible exact pt_Pager_dirty)
local macro_rules | `(tactic| walk_at "pt") => `(tactic| with_reducible exact pi_Pager_committed)
local macro_rules | `(tactic| walk_at "pt") => `(tactic| with_reducible exact pt_Pager_committed)
local macro_rules | `(tactic| walk_at "pt") => `(tactic| with_reducible exact pi_Pager_device)
local macro_rules | `(tactic| walk_at "pt") => `(tactic| with_reducible exact pt_Pager_device)
local macro_rules | `(tactic| walk_at "pt") => `(tactic| with_reducible exact pi_MetricTree_metric)
local macro_rules | `(tactic| walk_at "pt") => `(tactic| with_reducible exact pt_MetricTree_metric)
local macro_rules | `(tactic| walk_at "pt") => `(tactic| with_reducible exact pi_MetricTree_dimensions)
local macro_rules | `(tactic| walk_at "pt") => `(tactic| with_reducible exact pt_MetricTree_dimensions)
local macro_rules | `(tactic| walk_at "pt") => `(tactic| with_reducible exact pi_MetricTree_root)
local macro_rules | `(tactic| walk_at "pt") => `(tactic| with_reducible exact pt_MetricTree_root)
local macro_rules | `(tactic| walk_at "pt") => `(tactic| with_reducible exact pi_MetricTree_pager)
local macro_rules | `(tactic| walk_at "pt") => `(tactic| with_reducible exact pt_MetricTree_pager)
local macro_rules | `(tactic| walk_at "pt") => `(tactic| with_reducible exact pi_Device_most)
local macro_rules | `(tactic| walk_at "pt") => `(tactic| with_reducible exact pt_Device_most)
local macro_rules | `(tactic| walk_at "pt") => `(tactic| with_reducible exact pi_Device_done)
local macro_rules | `(tactic| walk_at "pt") => `(tactic| with_reducible exact pt_Device_done)
local macro_rules | `(tactic| walk_at "pt") => `(tactic| with_reducible exact pi_Device_log_steps)
local macro_rules | `(tactic| walk_at "pt") => `(tactic| with_reducible exact pt_Device_log_steps)
local macro_rules | `(tactic| walk_at "pt") => `(tactic| with_reducible exact pi_Device_durable_log)
local macro_rules | `(tactic| walk_at "pt") => `(tactic| with_reducible exact pt_Device_durable_log)
local macro_rules | `(tactic| walk_at "pt") => `(tactic| with_reducible exact pi_Device_page_writes)
local macro_rules | `(tactic| walk_at "pt") => `(tactic| with_reducible exact pt_Device_page_writes)
local macro_rules | `(tactic| walk_at "pt") => `(tactic| with_reducible exact pi_Device_pages)
local macro_rules | `(tactic| walk_at "pt") => `(tactic| with_reducible exact pt_Device_pages)
local macro_rules | `(tactic| walk_at "no") => `(tactic| with_reducible exact rfl)
local macro_rules | `(tactic| walk_at "no") => `(tactic| with_reducible exact ni_Pager_rollback_2)
local macro_rules | `(tactic| walk_at "no") => `(tactic| with_reducible exact ni_Pager_rollback_1)
local macro_rules | `(tactic| walk_at "no") => `(tactic| with_reducible exact no_Pager_rollback)
local macro_rules | `(tactic| walk_at "no") => `(tactic| with_reducible exact ni_Pager_checkpoint_2)
local macro_rules | `(tactic| walk_at "no") => `(tactic| with_reducible exact ni_Pager_checkpoint_1)
local macro_rules | `(tactic| walk_at "no") => `(tactic| with_reducible exact no_Pager_checkpoint)
local macro_rules | `(tactic| walk_at "no") => `(tactic| with_reducible exact ni_Pager_commit_2)
local macro_rules | `(tactic| walk_at "no") => `(tactic| with_reducible exact ni_Pager_commit_1)
local macro_rules | `(tactic| walk_at "no") => `(tactic| with_reducible exact no_Pager_commit)
local macro_rules | `(tactic| walk_at "no") => `(tactic| with_reducible exact ni_Pager_release_2)
local macro_rules | `(tactic| walk_at "no") => `(tactic| with_reducible exact ni_Pager_release_1)
local macro_rules | `(tactic| walk_at "no") => `(tactic| with_reducible exact no_Pager_release)
local macro_rules | `(tactic| walk_at "no") => `(tactic| with_reducible exact ni_Pager_allocate_2)
local macro_rules | `(tactic| walk_at "no") => `(tactic| with_reducible exact ni_Pager_allocate_1)
local macro_rules | `(tactic| walk_at "no") => `(tactic| with_reducible exact no_Pager_allocate)
local macro_rules | `(tactic| walk_at "no") => `(tactic| with_reducible exact ni_Pager_set_field_2)
local macro_rules | `(tactic| walk_at "no") => `(tactic| with_reducible exact ni_Pager_set_field_1)
local macro_rules | `(tactic| walk_at "no") => `(tactic| with_reducible exact no_Pager_set_field)
local macro_rules | `(tactic| walk_at "no") => `(tactic| with_reducible exact ni_Pager_field_2)
local macro_rules | `(tactic| walk_at "no") => `(tactic| with_reducible exact ni_Pager_field_1)
local macro_rules | `(tactic| walk_at "no") => `(tactic| with_reducible exact no_Pager_field)
local macro_rules | `(tactic| walk_at "no") => `(tactic| with_reducible exact ni_Pager_write_2)
local macro_rules | `(tactic| walk_at "no") => `(tactic| with_reducible exact ni_Pager_write_1)
local macro_rules | `(tactic| walk_at "no") => `(tactic| with_reducible exact no_Pager_write)
local macro_rules | `(tactic| walk_at "no") => `(tactic| with_reducible exact ni_Pager_read_2)
local macro_rules | `(tactic| walk_at "no") => `(tactic| with_reducible exact ni_Pager_read_1)
local macro_rules | `(tactic| walk_at "no") => `(tactic| with_reducible exact no_Pager_read)
local macro_rules | `(tactic| walk_at "no") => `(tactic| with_reducible exact ni_Pager_count_head_2)
local macro_rules | `(tactic| walk_at "no") => `(tactic| with_reducible exact ni_Pager_count_head_1)
local macro_rules | `(tactic| walk_at "no") => `(tactic| with_reducible exact no_Pager_count_head)
local macro_rules | `(tactic| walk_at "no") => `(tactic| with_reducible exact ni_MetricTree_pages_3)
local macro_rules | `(tactic| walk_at "no") => `(tactic| with_reducible exact ni_MetricTree_pages_2)
local macro_rules | `(tactic| walk_at "no") => `(tactic| with_reducible exact ni_MetricTree_pages_1)
local macro_rules | `(tactic| walk_at "no") => `(tactic| with_reducible exact no_MetricTree_pages)
local macro_rules | `(tactic| walk_at "no") => `(tactic| with_reducible exact ni_MetricTree_all_items_3)
local macro_rules | `(tactic| walk_at "no") => `(tactic| with_reducible exact ni_MetricTree_all_items_2)
local macro_rules | `(tactic| walk_at "no") => `(tactic| with_reducible exact ni_MetricTree_all_items_1)
local macro_rules | `(tactic| walk_at "no") => `(tactic| with_reducible exact no_MetricTree_all_items)
local macro_rules | `(tactic| walk_at "no") => `(tactic| with_reducible exact ni_MetricTree_nearest_3)
local macro_rules | `(tactic| walk_at "no") => `(tactic| with_reducible exact ni_MetricTree_nearest_2)
local macro_rules | `(tactic| walk_at "no") => `(tactic| with_reducible exact ni_MetricTree_nearest_1)
local macro_rules | `(tactic| walk_at "no") => `(tactic| with_reducible exact no_MetricTree_nearest)
local macro_rules | `(tactic| walk_at "no") => `(tactic| with_reducible exact ni_MetricTree_lower_3)
local macro_rules | `(tactic| walk_at "no") => `(tactic| with_reducible exact ni_MetricTree_lower_2)
local macro_rules | `(tactic| walk_at "no") => `(tactic| with_reducible exact ni_MetricTree_lower_1)
local macro_rules | `(tactic| walk_at "no") => `(tactic| with_reducible exact no_MetricTree_lower)
local macro_rules | `(tactic| walk_at "no") => `(tactic| with_reducible exact ni_MetricTree_delete_3)
local macro_rules | `(tactic| walk_at "no") => `(tactic| with_reducible exact ni_MetricTree_delete_2)
local macro_rules | `(tactic| walk_at "no") => `(tactic| with_reducible exact ni_MetricTree_delete_1)
local macro_rules | `(tactic| walk_at "no") => `(tactic| with_reducible exact no_MetricTree_delete)
local macro_rules | `(tactic| walk_at "no") => `(tactic| with_reducible exact ni_MetricTree_path_to_3)
local macro_rules | `(tactic| walk_at "no") => `(tactic| with_reducible exact ni_MetricTree_path_to_2)
local macro_rules | `(tactic| walk_at "no") => `(tactic| with_reducible exact ni_MetricTree_path_to_1)
local macro_rules | `(tactic| walk_at "no") => `(tactic| with_reducible exact no_MetricTree_path_to)
local macro_rules | `(tactic| walk_at "no") => `(tactic| with_reducible exact ni_MetricTree_insert_3)
local macro_rules | `(tactic| walk_at "no") => `(tactic| with_reducible exact ni_MetricTree_insert_2)
local macro_rules | `(tactic| walk_at "no") => `(tactic| with_reducible exact ni_MetricTree_insert_1)
local macro_rules | `(tactic| walk_at "no") => `(tactic| with_reducible exact no_MetricTree_insert)
local macro_rules | `(tactic| walk_at "no") => `(tactic| with_reducible exact ni_MetricTree_save_3)
local macro_rules | `(tactic| walk_at "no") => `(tactic| with_reducible exact ni_MetricTree_save_2)
local macro_rules | `(tactic| walk_at "no") => `(tactic| with_reducible exact ni_MetricTree_save_1)
local macro_rules | `(tactic| walk_at "no") => `(tactic| with_reducible exact no_MetricTree_save)
local macro_rules | `(tactic| walk_at "no") => `(tactic| with_reducible exact ni_MetricTree_halves_3)
local macro_rules | `(tactic| walk_at "no") => `(tactic| with_reducible exact ni_MetricTree_halves_2)
local macro_rules | `(tactic| walk_at "no") => `(tactic| with_reducible exact ni_MetricTree_halves_1)
local macro_rules | `(tactic| walk_at "no") => `(tactic| with_reducible exact no_MetricTree_halves)
local macro_rules | `(tactic| walk_at "no") => `(tactic| with_reducible exact ni_MetricTree_radius_of_3)
local macro_rules | `(tactic| walk_at "no") => `(tactic| with_reducible exact ni_MetricTree_radius_of_2)
local macro_rules | `(tactic| walk_at "no") => `(tactic| with_reducible exact ni_MetricTree_radius_of_1)
local macro_rules | `(tactic| walk_at "no") => `(tactic| with_reducible exact no_MetricTree_radius_of)
local macro_rules | `(tactic| walk_at "no") => `(tactic| with_reducible exact ni_MetricTree_point_of_3)
local macro_rules | `(tactic| walk_at "no") => `(tactic| with_reducible exact ni_MetricTree_point_of_2)
local macro_rules | `(tactic| walk_at "no") => `(tactic| with_reducible exact ni_MetricTree_point_of_1)
local macro_rules | `(tactic| walk_at "no") => `(tactic| with_reducible exact no_MetricTree_point_of)
local macro_rules | `(tactic| walk_at "no") => `(tactic| with_reducible exact ni_MetricTree_store_3)
local macro_rules | `(tactic| walk_at "no") => `(tactic| with_reducible exact ni_MetricTree_store_2)
local macro_rules | `(tactic| walk_at "no") => `(tactic| with_reducible exact ni_MetricTree_store_1)
local macro_rules | `(tactic| walk_at "no") => `(tactic| with_reducible exact no_MetricTree_store)
local macro_rules | `(tactic| walk_at "no") => `(tactic| with_reducible exact ni_MetricTree_load_3)
local macro_rules | `(tactic| walk_at "no") => `(tactic| with_reducible exact ni_MetricTree_load_2)
local macro_rules | `(tactic| walk_at "no") => `(tactic| with_reducible exact ni_MetricTree_load_1)
local macro_rules | `(tactic| walk_at "no") => `(tactic| with_reducible exact no_MetricTree_load)
local macro_rules | `(tactic| walk_at "no") => `(tactic| with_reducible exact ni_Device_pending_5)
local macro_rules | `(tactic| walk_at "no") => `(tactic| with_reducible exact ni_Device_pending_4)
local macro_rules | `(tactic| walk_at "no") => `(tactic| with_reducible exact ni_Device_pending_3)
local macro_rules | `(tactic| walk_at "no") => `(tactic| with_reducible exact ni_Device_pending_2)
local macro_rules | `(tactic| walk_at "no") => `(tactic| with_reducible exact ni_Device_pending_1)
local macro_rules | `(tactic| walk_at "no") => `(tactic| with_reducible exact no_Device_pending)
local macro_rules | `(tactic| walk_at "no") => `(tactic| with_reducible exact ni_Device_steps_5)
local macro_rules | `(tactic| walk_at "no") => `(tactic| with_reducible exact ni_Device_steps_4)
local macro_rules | `(tactic| walk_at "no") => `(tactic| with_reducible exact ni_Device_steps_3)
local macro_rules | `(tactic| walk_at "no") => `(tactic| with_reducible exact ni_Device_steps_2)
local macro_rules | `(tactic| walk_at "no") => `(tactic| with_reducible exact ni_Device_steps_1)
local macro_rules | `(tactic| walk_at "no") => `(tactic| with_reducible exact no_Device_steps)
local macro_rules | `(tactic| walk_at "no") => `(tactic| with_reducible exact ni_Device_crash_5)
local macro_rules | `(tactic| walk_at "no") => `(tactic| with_reducible exact ni_Device_crash_4)
local macro_rules | `(tactic| walk_at "no") => `(tactic| with_reducible exact ni_Device_crash_3)
local macro_rules | `(tactic| walk_at "no") => `(tactic| with_reducible exact ni_Device_crash_2)
local macro_rules | `(tactic| walk_at "no") => `(tactic| with_reducible exact ni_Device_crash_1)
local macro_rules | `(tactic| walk_at "no") => `(tactic| with_reducible exact no_Device_crash)
local macro_rules | `(tactic| walk_at "no") => `(tactic| with_reducible exact ni_Device_limit_5)
local macro_rules | `(tactic| walk_at "no") => `(tactic| with_reducible exact ni_Device_limit_4)
local macro_rules | `(tactic| walk_at "no") => `(tactic| with_reducible exact ni_Device_limit_3)
local macro_rules | `(tactic| walk_at "no") => `(tactic| with_reducible exact ni_Device_limit_2)
local macro_rules | `(tactic| walk_at "no") => `(tactic| with_reducible exact ni_Device_limit_1)
local macro_rules | `(tactic| walk_at "no") => `(tactic| with_reducible exact no_Device_limit)
local macro_rules | `(tactic| walk_at "no") => `(tactic| with_reducible exact ni_Device_log_5)
local macro_rules | `(tactic| walk_at "no") => `(tactic| with_reducible exact ni_Device_log_4)
local macro_rules | `(tactic| walk_at "no") => `(tactic| with_reducible exact ni_Device_log_3)
local macro_rules | `(tactic| walk_at "no") => `(tactic| with_reducible exact ni_Device_log_2)
local macro_rules | `(tactic| walk_at "no") => `(tactic| with_reducible exact ni_Device_log_1)
local macro_rules | `(tactic| walk_at "no") => `(tactic| with_reducible exact no_Device_log)
local macro_rules | `(tactic| walk_at "no") => `(tactic| with_reducible exact ni_Device_page_5)
local macro_rules | `(tactic| walk_at "no") => `(tactic| with_reducible exact ni_Device_page_4)
local macro_rules | `(tactic| walk_at "no") => `(tactic| with_reducible exact ni_Device_page_3)
local macro_rules | `(tactic| walk_at "no") => `(tactic| with_reducible exact ni_Device_page_2)
local macro_rules | `(tactic| walk_at "no") => `(tactic| with_reducible exact ni_Device_page_1)
local macro_rules | `(tactic| walk_at "no") => `(tactic| with_reducible exact no_Device_page)
local macro_rules | `(tactic| walk_at "no") => `(tactic| with_reducible exact ni_Device_durable_page_5)
local macro_rules | `(tactic| walk_at "no") => `(tactic| with_reducible exact ni_Device_durable_page_4)
local macro_rules | `(tactic| walk_at "no") => `(tactic| with_reducible exact ni_Device_durable_page_3)
local macro_rules | `(tactic| walk_at "no") => `(tactic| with_reducible exact ni_Device_durable_page_2)
local macro_rules | `(tactic| walk_at "no") => `(tactic| with_reducible exact ni_Device_durable_page_1)
local macro_rules | `(tactic| walk_at "no") => `(tactic| with_reducible exact no_Device_durable_page)
local macro_rules | `(tactic| walk_at "no") => `(tactic| with_reducible exact ni_Device_sync_log_5)
local macro_rules | `(tactic| walk_at "no") => `(tactic| with_reducible exact ni_Device_sync_log_4)
local macro_rules | `(tactic| walk_at "no") => `(tactic| with_reducible exact ni_Device_sync_log_3)
local macro_rules | `(tactic| walk_at "no") => `(tactic| with_reducible exact ni_Device_sync_log_2)
local macro_rules | `(tactic| walk_at "no") => `(tactic| with_reducible exact ni_Device_sync_log_1)
local macro_rules | `(tactic| walk_at "no") => `(tactic| with_reducible exact no_Device_sync_log)
local macro_rules | `(tactic| walk_at "no") => `(tactic| with_reducible exact ni_Device_clear_5)
local macro_rules | `(tactic| walk_at "no") => `(tactic| with_reducible exact ni_Device_clear_4)
local macro_rules | `(tactic| walk_at "no") => `(tactic| with_reducible exact ni_Device_clear_3)
local macro_rules | `(tactic| walk_at "no") => `(tactic| with_reducible exact ni_Device_clear_2)
local macro_rules | `(tactic| walk_at "no") => `(tactic| with_reducible exact ni_Device_clear_1)
local macro_rules | `(tactic| walk_at "no") => `(tactic| with_reducible exact no_Device_clear)
local macro_rules | `(tactic| walk_at "no") => `(tactic| with_reducible exact ni_Device_append_5)
local macro_rules | `(tactic| walk_at "no") => `(tactic| with_reducible exact ni_Device_append_4)
local macro_rules | `(tactic| walk_at "no") => `(tactic| with_reducible exact ni_Device_append_3)
local macro_rules | `(tactic| walk_at "no") => `(tactic| with_reducible exact ni_Device_append_2)
local macro_rules | `(tactic| walk_at "no") => `(tactic| with_reducible exact ni_Device_append_1)
local macro_rules | `(tactic| walk_at "no") => `(tactic| with_reducible exact no_Device_append)
local macro_rules | `(tactic| walk_at "no") => `(tactic| with_reducible exact ni_Device_sync_pages_5)
local macro_rules | `(tactic| walk_at "no") => `(tactic| with_reducible exact ni_Device_sync_pages_4)
local macro_rules | `(tactic| walk_at "no") => `(tactic| with_reducible exact ni_Device_sync_pages_3)
local macro_rules | `(tactic| walk_at "no") => `(tactic| with_reducible exact ni_Device_sync_pages_2)
local macro_rules | `(tactic| walk_at "no") => `(tactic| with_reducible exact ni_Device_sync_pages_1)
local macro_rules | `(tactic| walk_at "no") => `(tactic| with_reducible exact no_Device_sync_pages)
local macro_rules | `(tactic| walk_at "no") => `(tactic| with_reducible exact ni_Device_write_page_5)
local macro_rules | `(tactic| walk_at "no") => `(tactic| with_reducible exact ni_Device_write_page_4)
local macro_rules | `(tactic| walk_at "no") => `(tactic| with_reducible exact ni_Device_write_page_3)
local macro_rules | `(tactic| walk_at "no") => `(tactic| with_reducible exact ni_Device_write_page_2)
local macro_rules | `(tactic| walk_at "no") => `(tactic| with_reducible exact ni_Device_write_page_1)
local macro_rules | `(tactic| walk_at "no") => `(tactic| with_reducible exact no_Device_write_page)
local macro_rules | `(tactic| walk_at "no") => `(tactic| with_reducible exact ni_Device_step_5)
local macro_rules | `(tactic| walk_at "no") => `(tactic| with_reducible exact ni_Device_step_4)
local macro_rules | `(tactic| walk_at "no") => `(tactic| with_reducible exact ni_Device_step_3)
local macro_rules | `(tactic| walk_at "no") => `(tactic| with_reducible exact ni_Device_step_2)
local macro_rules | `(tactic| walk_at "no") => `(tactic| with_reducible exact ni_Device_step_1)
local macro_rules | `(tactic| walk_at "no") => `(tactic| with_reducible exact no_Device_step)
local macro_rules | `(tactic| walk_at "ln") => `(tactic| (show 0 < 1000; decide))
local macro_rules | `(tactic| walk_at "ln") => `(tactic| with_reducible exact ln_Pager_3)
local macro_rules | `(tactic| walk_at "ln") => `(tactic| with_reducible exact ln_Pager_2)
local macro_rules | `(tactic| walk_at "ln") => `(tactic| with_reducible exact ln_Pager_1)
local macro_rules | `(tactic| walk_at "ln") => `(tactic| with_reducible exact ln_MetricTree_4)
local macro_rules | `(tactic| walk_at "ln") => `(tactic| with_reducible exact ln_MetricTree_3)
local macro_rules | `(tactic| walk_at "ln") => `(tactic| with_reducible exact ln_MetricTree_2)
local macro_rules | `(tactic| walk_at "ln") => `(tactic| with_reducible exact ln_MetricTree_1)
local macro_rules | `(tactic| walk_at "ln") => `(tactic| with_reducible exact ln_Device_6)
local macro_rules | `(tactic| walk_at "ln") => `(tactic| with_reducible exact ln_Device_5)
local macro_rules | `(tactic| walk_at "ln") => `(tactic| with_reducible exact ln_Device_4)
local macro_rules | `(tactic| walk_at "ln") => `(tactic| with_reducible exact ln_Device_3)
local macro_rules | `(tactic| walk_at "ln") => `(tactic| with_reducible exact ln_Device_2)
local macro_rules | `(tactic| walk_at "ln") => `(tactic| with_reducible exact ln_Device_1)
/-- what the top has left -/
structure Txt (K : PySem.W.Frag) (mg : Str → Option Value) (c : Cl) : Prop where
  f__wall : ∃ f fd, Fun K "_wall" "_wall" s__wall f fd ∧ mg "_wall" = some (.ref f)
  f_Device___init__ : ∃ f fd, Fun K "__init__" "Device.__init__" s_Device___init__ f fd ∧ PySem.W.findIn K (.ref c.Device) "__init__" = some (some (.ref f)) ∧ PySem.W.isFn K (.ref f) = true
  f_Device_step : ∃ f fd, Fun K "step" "Device.step" s_Device_step f fd ∧ PySem.W.findIn K (.ref c.Device) "step" = some (some (.ref f)) ∧ PySem.W.isFn K (.ref f) = true
  f_Device_write_page : ∃ f fd, Fun K "write_page" "Device.write_page" s_Device_write_page f fd ∧ PySem.W.findIn K (.ref c.Device) "write_page" = some (some (.ref f)) ∧ PySem.W.isFn K (.ref f) = true
  f_Device_sync_pages : ∃ f fd, Fun K "sync_pages" "Device.sync_pages" s_Device_sync_pages f fd ∧ PySem.W.findIn K (.ref c.Device) "sync_pages" = some (some (.ref f)) ∧ PySem.W.isFn K (.ref f) = true
  f_Device_append : ∃ f fd, Fun K "append" "Device.append" s_Device_append f fd ∧ PySem.W.findIn K (.ref c.Device) "append" = some (some (.ref f)) ∧ PySem.W.isFn K (.ref f) = true
  f_Device_clear : ∃ f fd, Fun K "clear" "Device.clear" s_Device_clear f fd ∧ PySem.W.findIn K (.ref c.Device) "clear" = some (some (.ref f)) ∧ PySem.W.isFn K (.ref f) = true
  f_Device_sync_log : ∃ f fd, Fun K "sync_log" "Device.sync_log" s_Device_sync_log f fd ∧ PySem.W.findIn K (.ref c.Device) "sync_log" = some (some (.ref f)) ∧ PySem.W.isFn K (.ref f) = true
  f_Device_durable_page : ∃ f fd, Fun K "durable_page" "Device.durable_page" s_Device_durable_page f fd ∧ PySem.W.findIn K (.ref c.Device) "durable_page" = some (some (.ref f)) ∧ PySem.W.isFn K (.ref f) = true
  f_Device_page : ∃ f fd, Fun K "page" "Device.page" s_Device_page f fd ∧ PySem.W.findIn K (.ref c.Device) "page" = some (some (.ref f)) ∧ PySem.W.isFn K (.ref f) = true
  f_Device_log : ∃ f fd, Fun K "log" "Device.log" s_Device_log f fd ∧ PySem.W.findIn K (.ref c.Device) "log" = some (some (.ref f)) ∧ PySem.W.isFn K (.ref f) = true
  f_Device_limit : ∃ f fd, Fun K "limit" "Device.limit" s_Device_limit f fd ∧ PySem.W.findIn K (.ref c.Device) "limit" = some (some (.ref f)) ∧ PySem.W.isFn K (.ref f) = true
  f_Device_crash : ∃ f fd, Fun K "crash" "Device.crash" s_Device_crash f fd ∧ PySem.W.findIn K (.ref c.Device) "crash" = some (some (.ref f)) ∧ PySem.W.isFn K (.ref f) = true
  f_Device_steps : ∃ f fd, Fun K "steps" "Device.steps" s_Device_steps f fd ∧ PySem.W.findIn K (.ref c.Device) "steps" = some (some (.ref f)) ∧ PySem.W.isFn K (.ref f) = true
  f_Device_pending : ∃ f fd, Fun K "pending" "Device.pending" s_Device_pending f fd ∧ PySem.W.findIn K (.ref c.Device) "pending" = some (some (.ref f)) ∧ PySem.W.isFn K (.ref f) = true
  f_distance : ∃ f fd, Fun K "distance" "distance" s_distance f fd ∧ mg "distance" = some (.ref f)
  f_write_number : ∃ f fd, Fun K "write_number" "write_number" s_write_number f fd ∧ mg "write_number" = some (.ref f)
  f_read_number : ∃ f fd, Fun K "read_number" "read_number" s_read_number f fd ∧ mg "read_number" = some (.ref f)
  f_write_point : ∃ f fd, Fun K "write_point" "write_point" s_write_point f fd ∧ mg "write_point" = some (.ref f)
  f_read_point : ∃ f fd, Fun K "read_point" "read_point" s_read_point f fd ∧ mg "read_point" = some (.ref f)
  f_filled : ∃ f fd, Fun K "filled" "filled" s_filled f fd ∧ mg "filled" = some (.ref f)
  f_pair_of_pivots : ∃ f fd, Fun K "pair_of_pivots" "pair_of_pivots" s_pair_of_pivots f fd ∧ mg "pair_of_pivots" = some (.ref f)
  f_MetricTree___init__ : ∃ f fd, Fun K "__init__" "MetricTree.__init__" s_MetricTree___init__ f fd ∧ PySem.W.findIn K (.ref c.MetricTree) "__init__" = some (some (.ref f)) ∧ PySem.W.isFn K (.ref f) = true
  f_MetricTree_load : ∃ f fd, Fun K "load" "MetricTree.load" s_MetricTree_load f fd ∧ PySem.W.findIn K (.ref c.MetricTree) "load" = some (some (.ref f)) ∧ PySem.W.isFn K (.ref f) = true
  f_MetricTree_store : ∃ f fd, Fun K "store" "MetricTree.store" s_MetricTree_store f fd ∧ PySem.W.findIn K (.ref c.MetricTree) "store" = some (some (.ref f)) ∧ PySem.W.isFn K (.ref f) = true
  f_MetricTree_point_of : ∃ f fd, Fun K "point_of" "MetricTree.point_of" s_MetricTree_point_of f fd ∧ PySem.W.findIn K (.ref c.MetricTree) "point_of" = some (some (.ref f)) ∧ PySem.W.isFn K (.ref f) = true
  f_MetricTree_radius_of : ∃ f fd, Fun K "radius_of" "MetricTree.radius_of" s_MetricTree_radius_of f fd ∧ PySem.W.findIn K (.ref c.MetricTree) "radius_of" = some (some (.ref f)) ∧ PySem.W.isFn K (.ref f) = true
  f_MetricTree_halves : ∃ f fd, Fun K "halves" "MetricTree.halves" s_MetricTree_halves f fd ∧ PySem.W.findIn K (.ref c.MetricTree) "halves" = some (some (.ref f)) ∧ PySem.W.isFn K (.ref f) = true
  f_MetricTree_save : ∃ f fd, Fun K "save" "MetricTree.save" s_MetricTree_save f fd ∧ PySem.W.findIn K (.ref c.MetricTree) "save" = some (some (.ref f)) ∧ PySem.W.isFn K (.ref f) = true
  f_MetricTree_insert : ∃ f fd, Fun K "insert" "MetricTree.insert" s_MetricTree_insert f fd ∧ PySem.W.findIn K (.ref c.MetricTree) "insert" = some (some (.ref f)) ∧ PySem.W.isFn K (.ref f) = true
  f_MetricTree_path_to : ∃ f fd, Fun K "path_to" "MetricTree.path_to" s_MetricTree_path_to f fd ∧ PySem.W.findIn K (.ref c.MetricTree) "path_to" = some (some (.ref f)) ∧ PySem.W.isFn K (.ref f) = true
  f_MetricTree_delete : ∃ f fd, Fun K "delete" "MetricTree.delete" s_MetricTree_delete f fd ∧ PySem.W.findIn K (.ref c.MetricTree) "delete" = some (some (.ref f)) ∧ PySem.W.isFn K (.ref f) = true
  f_MetricTree_lower : ∃ f fd, Fun K "lower" "MetricTree.lower" s_MetricTree_lower f fd ∧ PySem.W.findIn K (.ref c.MetricTree) "lower" = some (some (.ref f)) ∧ PySem.W.isFn K (.ref f) = true
  f_MetricTree_nearest : ∃ f fd, Fun K "nearest" "MetricTree.nearest" s_MetricTree_nearest f fd ∧ PySem.W.findIn K (.ref c.MetricTree) "nearest" = some (some (.ref f)) ∧ PySem.W.isFn K (.ref f) = true
  f_MetricTree_all_items : ∃ f fd, Fun K "all_items" "MetricTree.all_items" s_MetricTree_all_items f fd ∧ PySem.W.findIn K (.ref c.MetricTree) "all_items" = some (some (.ref f)) ∧ PySem.W.isFn K (.ref f) = true
  f_MetricTree_pages : ∃ f fd, Fun K "pages" "MetricTree.pages" s_MetricTree_pages f fd ∧ PySem.W.findIn K (.ref c.MetricTree) "pages" = some (some (.ref f)) ∧ PySem.W.isFn K (.ref f) = true
  f_read_groups : ∃ f fd, Fun K "read_groups" "read_groups" s_read_groups f fd ∧ mg "read_groups" = some (.ref f)
  f_Pager___init__ : ∃ f fd, Fun K "__init__" "Pager.__init__" s_Pager___init__ f fd ∧ PySem.W.findIn K (.ref c.Pager) "__init__" = some (some (.ref f)) ∧ PySem.W.isFn K (.ref f) = true
  f_Pager_count_head : ∃ f fd, Fun K "count_head" "Pager.count_head" s_Pager_count_head f fd ∧ PySem.W.findIn K (.ref c.Pager) "count_head" = some (some (.ref f)) ∧ PySem.W.isFn K (.ref f) = true
  f_Pager_read : ∃ f fd, Fun K "read" "Pager.read" s_Pager_read f fd ∧ PySem.W.findIn K (.ref c.Pager) "read" = some (some (.ref f)) ∧ PySem.W.isFn K (.ref f) = true
  f_Pager_write : ∃ f fd, Fun K "write" "Pager.write" s_Pager_write f fd ∧ PySem.W.findIn K (.ref c.Pager) "write" = some (some (.ref f)) ∧ PySem.W.isFn K (.ref f) = true
  f_Pager_field : ∃ f fd, Fun K "field" "Pager.field" s_Pager_field f fd ∧ PySem.W.findIn K (.ref c.Pager) "field" = some (some (.ref f)) ∧ PySem.W.isFn K (.ref f) = true
  f_Pager_set_field : ∃ f fd, Fun K "set_field" "Pager.set_field" s_Pager_set_field f fd ∧ PySem.W.findIn K (.ref c.Pager) "set_field" = some (some (.ref f)) ∧ PySem.W.isFn K (.ref f) = true
  f_Pager_allocate : ∃ f fd, Fun K "allocate" "Pager.allocate" s_Pager_allocate f fd ∧ PySem.W.findIn K (.ref c.Pager) "allocate" = some (some (.ref f)) ∧ PySem.W.isFn K (.ref f) = true
  f_Pager_release : ∃ f fd, Fun K "release" "Pager.release" s_Pager_release f fd ∧ PySem.W.findIn K (.ref c.Pager) "release" = some (some (.ref f)) ∧ PySem.W.isFn K (.ref f) = true
  f_Pager_commit : ∃ f fd, Fun K "commit" "Pager.commit" s_Pager_commit f fd ∧ PySem.W.findIn K (.ref c.Pager) "commit" = some (some (.ref f)) ∧ PySem.W.isFn K (.ref f) = true
  f_Pager_checkpoint : ∃ f fd, Fun K "checkpoint" "Pager.checkpoint" s_Pager_checkpoint f fd ∧ PySem.W.findIn K (.ref c.Pager) "checkpoint" = some (some (.ref f)) ∧ PySem.W.isFn K (.ref f) = true
  f_Pager_rollback : ∃ f fd, Fun K "rollback" "Pager.rollback" s_Pager_rollback f fd ∧ PySem.W.findIn K (.ref c.Pager) "rollback" = some (some (.ref f)) ∧ PySem.W.isFn K (.ref f) = true
  f__law_draw : ∃ f fd, Fun K "_law_draw" "_law_draw" s__law_draw f fd ∧ mg "_law_draw" = some (.ref f)
  f__law_point : ∃ f fd, Fun K "_law_point" "_law_point" s__law_point f fd ∧ mg "_law_point" = some (.ref f)
  f__law_spanned : ∃ f fd, Fun K "_law_spanned" "_law_spanned" s__law_spanned f fd ∧ mg "_law_spanned" = some (.ref f)
  f__law_far : ∃ f fd, Fun K "_law_far" "_law_far" s__law_far f fd ∧ mg "_law_far" = some (.ref f)
  f__law_built : ∃ f fd, Fun K "_law_built" "_law_built" s__law_built f fd ∧ mg "_law_built" = some (.ref f)
  f__law_turned : ∃ f fd, Fun K "_law_turned" "_law_turned" s__law_turned f fd ∧ mg "_law_turned" = some (.ref f)
  f_law : ∃ f fd, FunC K "law" "law" s_law f fd c.nc ∧ mg "law" = some (.ref f)
  m_PAGE_SIZE : ∃ t, mg "PAGE_SIZE" = some (.int 256 t)
  m_OFFSET : ∃ t, mg "OFFSET" = some (.int 32768 t)
  m_LEAF : ∃ t, mg "LEAF" = some (.int 3 t)
  m_INNER : ∃ t, mg "INNER" = some (.int 4 t)
  m_MOST_ITEMS : ∃ t, mg "MOST_ITEMS" = some (.int 9 t)
  m_NUMBER_SIZE : ∃ t, mg "NUMBER_SIZE" = some (.int 4 t)
  m_FIELD_SIZE : ∃ t, mg "FIELD_SIZE" = some (.int 4 t)
  m_PAGES : ∃ t, mg "PAGES" = some (.int 6 t)
  m_FREE : ∃ t, mg "FREE" = some (.int 7 t)
  z_ValueError : mg "ValueError" = none
  z_abs : mg "abs" = none
  z_all : mg "all" = none
  z_int : mg "int" = none
  z_isinstance : mg "isinstance" = none
  z_len : mg "len" = none
  z_list : mg "list" = none
  z_max : mg "max" = none
  z_min : mg "min" = none
  z_range : mg "range" = none
  z_reversed : mg "reversed" = none
  z_sorted : mg "sorted" = none
  z_sum : mg "sum" = none
  z_tuple : mg "tuple" = none
  ex_VaultError : ExT K mg "VaultError" c.VaultError
  ex_PowerCut : ExT K mg "PowerCut" c.PowerCut
  cl_Device : Cls K c.Device
  mk_Device : PySem.W.makesIn K c.Device = true ∧ PySem.W.keepIn K (.ref c.Device) = true
  mg_Device : mg "Device" = some (.ref c.Device)
  n_Device_pages : NoAttr K c.Device "pages"
  n_Device_page_writes : NoAttr K c.Device "page_writes"
  n_Device_durable_log : NoAttr K c.Device "durable_log"
  n_Device_log_steps : NoAttr K c.Device "log_steps"
  n_Device_done : NoAttr K c.Device "done"
  n_Device_most : NoAttr K c.Device "most"
  cl_MetricTree : Cls K c.MetricTree
  mk_MetricTree : PySem.W.makesIn K c.MetricTree = true ∧ PySem.W.keepIn K (.ref c.MetricTree) = true
  mg_MetricTree : mg "MetricTree" = some (.ref c.MetricTree)
  n_MetricTree_pager : NoAttr K c.MetricTree "pager"
  n_MetricTree_root : NoAttr K c.MetricTree "root"
  n_MetricTree_dimensions : NoAttr K c.MetricTree "dimensions"
  n_MetricTree_metric : NoAttr K c.MetricTree "metric"
  cl_Pager : Cls K c.Pager
  mk_Pager : PySem.W.makesIn K c.Pager = true ∧ PySem.W.keepIn K (.ref c.Pager) = true
  mg_Pager : mg "Pager" = some (.ref c.Pager)
  n_Pager_device : NoAttr K c.Pager "device"
  n_Pager_committed : NoAttr K c.Pager "committed"
  n_Pager_dirty : NoAttr K c.Pager "dirty"
/-! ### the reading's steps -/
local macro_rules | `(tactic| walk_at "nf") => `(tactic| exact Ne.symm (ne_of_none (by assumption) (by assumption)))
local macro_rules | `(tactic| walk_at "nf") => `(tactic| exact ne_of_none (by assumption) (by assumption))
local macro_rules | `(tactic| walk_at "nf") => `(tactic| exact ne_of (by assumption) (by assumption) (by intro z; cases z))
local macro_rules | `(tactic| walk_at "nf") => `(tactic| exact Ne.symm (by assumption))
local macro_rules | `(tactic| walk_at "nf") => `(tactic| assumption)
local macro_rules | `(tactic| walk_at "nf") => `(tactic| exact id)
local macro_rules | `(tactic| walk_at "hp") => `(tactic| (refine' Kp.tup (by assumption) ?hpa; (case hpa => walk_at "hp")))
local macro_rules | `(tactic| walk_at "hp") => `(tactic| (refine' Kp.get (by assumption) ?hpa ?hpn; (case hpa => walk_at "hp"); (case hpn => walk_at "nf")))
local macro_rules | `(tactic| walk_at "hp") => `(tactic| exact upd_same)
local macro_rules | `(tactic| walk_at "hp") => `(tactic| assumption)
local macro_rules | `(tactic| walk_at "sq") => `(tactic| (refine' SqT.of ?hps; (case hps => walk_at "hp")))
local macro_rules | `(tactic| walk_at "sq") => `(tactic| (refine' SqL.of ?hps; (case hps => walk_at "hp")))
local macro_rules | `(tactic| walk_at "sq") => `(tactic| exact Sc.sq (by assumption))
local macro_rules | `(tactic| walk_at "sq") => `(tactic| exact SqT.of (by assumption))
local macro_rules | `(tactic| walk_at "sq") => `(tactic| exact SqL.of (by assumption))
local macro_rules | `(tactic| walk_at "sq") => `(tactic| assumption)
local macro_rules | `(tactic| walk_at "rd1") => `(tactic| with_reducible refine x_nopart ?_)
local macro_rules | `(tactic| walk_at "rd1") => `(tactic| with_reducible refine x_part1 ?_)
local macro_rules | `(tactic| walk_at "rd1") => `(tactic| with_reducible refine x_part ?_)
local macro_rules | `(tactic| walk_at "rd1") => `(tactic| with_reducible refine x_sl ?_)
local macro_rules | `(tactic| walk_at "rd1") => `(tactic| with_reducible refine x_min2 ?_)
local macro_rules | `(tactic| walk_at "rd1") => `(tactic| with_reducible refine x_max2 ?_)
local macro_rules | `(tactic| walk_at "rd1") => `(tactic| with_reducible refine x_abs ?_)
local macro_rules | `(tactic| walk_at "rd1") => `(tactic| with_reducible refine x_iT ?_)
local macro_rules | `(tactic| walk_at "rd1") => `(tactic| with_reducible refine x_iL ?_)
local macro_rules | `(tactic| walk_at "rd1") => `(tactic| with_reducible refine x_rng2 ?_)
local macro_rules | `(tactic| walk_at "rd1") => `(tactic| with_reducible refine x_rng1 ?_)
local macro_rules | `(tactic| walk_at "rd1") => `(tactic| with_reducible refine x_lc ?_)
local macro_rules | `(tactic| walk_at "rd1") => `(tactic| with_reducible refine x_for ?_)
local macro_rules | `(tactic| walk_at "rd1") => `(tactic| with_reducible refine x_gn ?_)
local macro_rules | `(tactic| walk_at "rd1") => `(tactic| with_reducible refine x_ifFF ?_)
local macro_rules | `(tactic| walk_at "rd1") => `(tactic| with_reducible refine x_ifTT ?_)
local macro_rules | `(tactic| walk_at "rd1") => `(tactic| with_reducible refine x_isiB ?_)
local macro_rules | `(tactic| walk_at "rd1") => `(tactic| with_reducible refine x_isiI ?_)
local macro_rules | `(tactic| walk_at "rd1") => `(tactic| with_reducible refine x_yes ?_)
local macro_rules | `(tactic| walk_at "rd1") => `(tactic| with_reducible refine x_ifNF ?_)
local macro_rules | `(tactic| walk_at "rd1") => `(tactic| with_reducible refine x_ifNT ?_)
local macro_rules | `(tactic| walk_at "rd1") => `(tactic| with_reducible refine x_and255 ?_)
local macro_rules | `(tactic| walk_at "rd1") => `(tactic| with_reducible refine x_g0 ?_)
local macro_rules | `(tactic| walk_at "rd1") => `(tactic| with_reducible refine x_gc ?_)
local macro_rules | `(tactic| walk_at "rd1") => `(tactic| with_reducible refine x_bm0 ?_)
local macro_rules | `(tactic| walk_at "rd1") => `(tactic| with_reducible refine x_bm ?_)
local macro_rules | `(tactic| walk_at "rd1") => `(tactic| with_reducible refine x_notNn ?_)
local macro_rules | `(tactic| walk_at "rd1") => `(tactic| with_reducible refine x_notNr ?_)
local macro_rules | `(tactic| walk_at "rd1") => `(tactic| with_reducible refine x_notNi ?_)
local macro_rules | `(tactic| walk_at "rd1") => `(tactic| with_reducible refine x_isNn ?_)
local macro_rules | `(tactic| walk_at "rd1") => `(tactic| with_reducible refine x_isNr ?_)
local macro_rules | `(tactic| walk_at "rd1") => `(tactic| with_reducible refine x_isNi ?_)
local macro_rules | `(tactic| walk_at "rd1") => `(tactic| with_reducible refine x_irev ?_)
local macro_rules | `(tactic| walk_at "rd1") => `(tactic| with_reducible refine x_tdp ?_)
local macro_rules | `(tactic| walk_at "rd1") => `(tactic| with_reducible refine x_tg2 ?_)
local macro_rules | `(tactic| walk_at "rd1") => `(tactic| with_reducible refine x_tdn ?_)
local macro_rules | `(tactic| walk_at "rd1") => `(tactic| with_reducible refine x_tdi ?_)
local macro_rules | `(tactic| walk_at "rd1") => `(tactic| with_reducible refine x_tdg ?_)
local macro_rules | `(tactic| walk_at "rd1") => `(tactic| with_reducible refine x_mk ?_)
local macro_rules | `(tactic| walk_at "rd1") => `(tactic| with_reducible refine x_tmt ?_)
local macro_rules | `(tactic| walk_at "rd1") => `(tactic| with_reducible refine x_rsub ?_)
local macro_rules | `(tactic| walk_at "rd1") => `(tactic| with_reducible refine x_radd ?_)
local macro_rules | `(tactic| walk_at "rd1") => `(tactic| with_reducible refine x_aug ?_)
local macro_rules | `(tactic| walk_at "rd1") => `(tactic| with_reducible refine x_tsf ?_)
local macro_rules | `(tactic| walk_at "rd1") => `(tactic| with_reducible refine x_tfld ?_)
local macro_rules | `(tactic| walk_at "rd1") => `(tactic| with_reducible refine x_tB ?_)
local macro_rules | `(tactic| walk_at "rd1") => `(tactic| with_reducible refine x_neg ?_)
local macro_rules | `(tactic| walk_at "rd1") => `(tactic| with_reducible refine x_un ?_)
local macro_rules | `(tactic| walk_at "rd1") => `(tactic| with_reducible refine x_sub ?_)
local macro_rules | `(tactic| walk_at "rd1") => `(tactic| with_reducible refine x_callS ?_)
local macro_rules | `(tactic| walk_at "rd1") => `(tactic| with_reducible refine x_lst ?_)
local macro_rules | `(tactic| walk_at "rd1") => `(tactic| with_reducible refine x_tup ?_)
local macro_rules | `(tactic| walk_at "rd1") => `(tactic| with_reducible refine x_ch ?_)
local macro_rules | `(tactic| walk_at "rd1") => `(tactic| with_reducible refine x_ifE ?_)
local macro_rules | `(tactic| walk_at "rd1") => `(tactic| with_reducible refine x_notV ?_)
local macro_rules | `(tactic| walk_at "rd1") => `(tactic| with_reducible refine x_orV ?_)
local macro_rules | `(tactic| walk_at "rd1") => `(tactic| with_reducible refine x_andV ?_)
local macro_rules | `(tactic| walk_at "rd1") => `(tactic| with_reducible refine x_not ?_)
local macro_rules | `(tactic| walk_at "rd1") => `(tactic| with_reducible refine x_or ?_)
local macro_rules | `(tactic| walk_at "rd1") => `(tactic| with_reducible refine x_and ?_)
local macro_rules | `(tactic| walk_at "rd1") => `(tactic| with_reducible refine x_intB ?_)
local macro_rules | `(tactic| walk_at "rd1") => `(tactic| with_reducible refine x_intI ?_)
local macro_rules | `(tactic| walk_at "rd1") => `(tactic| with_reducible refine x_neB ?_)
local macro_rules | `(tactic| walk_at "rd1") => `(tactic| with_reducible refine x_eqB ?_)
local macro_rules | `(tactic| walk_at "rd1") => `(tactic| with_reducible refine x_neS ?_)
local macro_rules | `(tactic| walk_at "rd1") => `(tactic| with_reducible refine x_eqS ?_)
local macro_rules | `(tactic| walk_at "rd1") => `(tactic| with_reducible refine x_neI ?_)
local macro_rules | `(tactic| walk_at "rd1") => `(tactic| with_reducible refine x_eqI ?_)
local macro_rules | `(tactic| walk_at "rd1") => `(tactic| with_reducible refine x_next ?_)
local macro_rules | `(tactic| walk_at "rd1") => `(tactic| with_reducible refine x_drop ?_)
local macro_rules | `(tactic| walk_at "rd1") => `(tactic| with_reducible refine x_retN ?_)
local macro_rules | `(tactic| walk_at "rd1") => `(tactic| with_reducible refine x_ret ?_)
local macro_rules | `(tactic| walk_at "rd1") => `(tactic| with_reducible refine x_nil ?_)
local macro_rules | `(tactic| walk_at "rd1") => `(tactic| with_reducible refine x_cons ?_)
local macro_rules | `(tactic| walk_at "rd1") => `(tactic| with_reducible refine x_cb ?_)
local macro_rules | `(tactic| walk_at "rd1") => `(tactic| with_reducible refine x_bl ?_)
local macro_rules | `(tactic| walk_at "rd1") => `(tactic| with_reducible refine x_I0 ?_)
local macro_rules | `(tactic| walk_at "rd1") => `(tactic| with_reducible refine x_c ?_)
local macro_rules | `(tactic| walk_at "rd1") => `(tactic| with_reducible refine x_op ?_)
local macro_rules | `(tactic| walk_at "rd1") => `(tactic| with_reducible refine x_tst ?_)
local macro_rules | `(tactic| walk_at "rd1") => `(tactic| with_reducible refine x_ifS ?_)
local macro_rules | `(tactic| walk_at "rd1") => `(tactic| with_reducible refine x_asg ?_)
local macro_rules | `(tactic| walk_at "rd1") => `(tactic| with_reducible refine x_seq ?_)
local macro_rules | `(tactic| walk_at "rd1") => `(tactic| ((with_reducible refine' x_iT1 ?h1 ?_); (case h1 => walk_at "sq")))
local macro_rules | `(tactic| walk_at "rd1") => `(tactic| ((with_reducible refine' x_iL1 ?h1 ?_); (case h1 => walk_at "sq")))
local macro_rules | `(tactic| walk_at "rd1") => `(tactic| ((with_reducible refine' x_rev ?h1 ?_); (case h1 => walk_at "sq")))
local macro_rules | `(tactic| walk_at "rd1") => `(tactic| ((with_reducible refine' x_dnI ?h1 ?_); (case h1 => refine' Or.inl ?h3; walk_at "hp")))
local macro_rules | `(tactic| walk_at "rd1") => `(tactic| ((with_reducible refine' x_diI ?h1 ?_); (case h1 => refine' Or.inl ?h3; walk_at "hp")))
local macro_rules | `(tactic| walk_at "rd1") => `(tactic| ((with_reducible refine' x_g2b ?h1 ?_); (case h1 => refine' Or.inl ?h3; walk_at "hp")))
local macro_rules | `(tactic| walk_at "rd1") => `(tactic| ((with_reducible refine' x_g2a ?h1 ?_); (case h1 => refine' Or.inl ?h3; walk_at "hp")))
local macro_rules | `(tactic| walk_at "rd1") => `(tactic| ((with_reducible refine' x_dpS ?h1 ?h2 ?h3 ?_); (case h1 => walk_at "hp"); (case h2 => walk_at "rp"); (case h3 => exact Nat.le_of_ble_eq_true rfl)))
local macro_rules | `(tactic| walk_at "rd1") => `(tactic| ((with_reducible refine' x_dgS ?h1 ?h2 ?_); (case h1 => refine' Or.inl ?h3; walk_at "hp"); (case h2 => walk_at "rv")))
local macro_rules | `(tactic| walk_at "rd1") => `(tactic| ((with_reducible refine' x_mt ?h1 ?h2 ?_); (case h1 => walk_at "hp"); (case h2 => walk_at "no")))
local macro_rules | `(tactic| walk_at "rd1") => `(tactic| ((with_reducible refine' x_augP ?h1 ?h2 ?h3 ?_); (case h1 => walk_at "hp"); (case h2 => walk_at "ln"); (case h3 => walk_at "pt")))
local macro_rules | `(tactic| walk_at "rd1") => `(tactic| ((with_reducible refine' x_augI ?h1 ?h2 ?h3 ?h4 ?_); (case h1 => walk_at "hp"); (case h2 => assumption); (case h3 => assumption); (case h4 => walk_at "lk")))
local macro_rules | `(tactic| walk_at "rd1") => `(tactic| ((with_reducible refine' x_sfl ?h1 ?h2 ?h3 ?h4 ?h5 ?_); (case h1 => walk_at "hp"); (case h2 => assumption); (case h3 => assumption); (case h4 => walk_at "ln"); (case h5 => walk_at "pt")))
local macro_rules | `(tactic| walk_at "rd1") => `(tactic| ((with_reducible refine' x_fld ?h1 ?h2 ?h3 ?h4 ?_); (case h1 => walk_at "hp"); (case h2 => assumption); (case h3 => assumption); (case h4 => walk_at "lk")))
local macro_rules | `(tactic| walk_at "rd1") => `(tactic| ((with_reducible refine' x_gt ?h1 ?h2 ?_); (case h1 => walk_at "sq"); (case h2 => exact rfl)))
local macro_rules | `(tactic| walk_at "rd1") => `(tactic| ((with_reducible refine' x_ty ?h1 ?_); (case h1 => walk_at "hp")))
local macro_rules | `(tactic| walk_at "rd1") => `(tactic| ((with_reducible refine' x_rg2 ?h1 ?_); (case h1 => omega)))
local macro_rules | `(tactic| walk_at "rd1") => `(tactic| ((with_reducible refine' x_rg1 ?h1 ?h2 ?_); (case h1 => omega); (case h2 => omega)))
local macro_rules | `(tactic| walk_at "rd1") => `(tactic| ((with_reducible refine' x_I ?h1 ?_); (case h1 => (first | exact .inr ⟨by decide, by decide⟩ | exact .inl ⟨by decide, by decide⟩ | omega | exact ⟨by decide, by decide, by decide⟩ | exact fdiv_ok (by omega) (by omega)))))
local macro_rules | `(tactic| walk_at "rd1") => `(tactic| ((with_reducible refine' x_lenT ?h1 ?_); (case h1 => walk_at "sq")))
local macro_rules | `(tactic| walk_at "rd1") => `(tactic| ((with_reducible refine' x_lenL ?h1 ?_); (case h1 => walk_at "sq")))
local macro_rules | `(tactic| walk_at "rd1") => `(tactic| ((with_reducible refine' x_ixT ?h1 ?h2 ?_); (case h1 => walk_at "sq"); (case h2 => (first | exact rfl | assumption))))
local macro_rules | `(tactic| walk_at "rd1") => `(tactic| ((with_reducible refine' x_setL ?h1 ?h2 ?_); (case h1 => walk_at "hp"); (case h2 => (first | exact rfl | assumption))))
local macro_rules | `(tactic| walk_at "rd1") => `(tactic| ((with_reducible refine' x_ixL ?h1 ?h2 ?_); (case h1 => walk_at "sq"); (case h2 => (first | exact rfl | assumption))))
local macro_rules | `(tactic| walk_at "rd1") => `(tactic| ((with_reducible refine' x_var ?vv ?_); (case vv => exact rfl)))
local macro_rules | `(tactic| walk_at "rd") => `(tactic| repeat walk_at "rd1")
local macro_rules | `(tactic| walk_at "cx") => `(tactic| dsimp only [cxOf, Cx.nox, Cx.wish, L2.start, List.map_cons, List.map_nil, List.length_cons, List.length_nil, List.reduceReplicate, List.cons_append, List.nil_append, Nat.reduceAdd, Nat.reduceSub])
/-! ### more steps -/
section
variable {K : PySem.W.Frag} {σ : L2.St} {H : Hp} {Q : VK} {D : Ends} {tc : TT} {tb : TS} {a : Addr}
theorem x_wh (Pv : Nat → L2.St → Hp → Prop) (h0 : ∃ m, Pv m σ H) (hs : ∀ m σ H, Pv m σ H → tc σ H fun b H1 => if b = true then ∃ N : L2.St → Hp → Prop, (∀ σ' H', N σ' H' → ∃ m', m' < m ∧ Pv m' σ' H') ∧ tb { nx := N, rt := D.rt, bk := D.nx, ct := N } σ H1 else D.nx σ H1) : tWhile tc tb D σ H :=
  ⟨Pv, h0, hs⟩
theorem x_augv {ti : TIp} {te : TE} {i : Nat} {x : V} (e : σ[i]? = some (some x)) (h : te σ H fun y H1 => ti x y H1 fun z H2 => D.nx (σ.set i (some z)) H2) : tAug i te ti D σ H := ⟨x, e, h⟩
theorem x_ipI {f : Int → Int → Int} {i j : Int} (h : Q (.int (f i j)) H) : ipI f (.int i) (.int j) H Q := ⟨i, j, rfl, rfl, h⟩
theorem x_isiR {T S : String} {b : Bool} (ht : TyX K H (.ref a) (.type T)) (hk : PySem.W.kitOne K (.type T) (.type S) = some b) (q : Q (.bl b) H) : rIsi K [.ref a, .ty S] H Q := ⟨_, _, _, _, b, rfl, .ty S, ht, hk, q⟩
theorem if_dtt {p A B : Prop} [Decidable p] (n : p) (h : A) : if decide p = true then A else B := by rw [if_pos (by simpa using n)]; exact h
theorem if_dff {p A B : Prop} [Decidable p] (n : ¬ p) (h : B) : if decide p = true then A else B := by rw [if_neg (by simpa using n)]; exact h
theorem x_cutN {D : Ends} {t u : TS} (h : t { D with nx := u D } σ H) : C8.tCut t u D σ H := ⟨u D, h, fun _ _ z => z⟩
end
/-- a comprehension whose list so far may tell of the heap: D the list's place -/
theorem wlcH {J : It} {G : Hp → Prop} {xs : List V} {g : TG} {tt : TT} {te : TE} {vs : List Nat} {σ : L2.St} {H0 : Hp} {Qd : Addr → Hp → Prop} (W : Wk J G xs) (F : Addr → Prop) (Pv : Addr → Nat → List V → Hp → Prop)
    (hF : ∀ b, F b → H0 b ≠ none) (hz : xs.length ≤ 100000) (hG : ∀ D i acc H', Pv D i acc H' → Kp F H0 H' → G H') (h0 : ∀ D, H0 D = none → Pv D 0 [] (upd H0 D (.lst []))) (hSt : ∀ D i acc H' H4, Kp (F1 D) H' H4 → Pv D i acc H' → Pv D i acc H4)
    (hs : ∀ D i x acc H' (R : V → Hp → Prop) (R0 : Hp → Prop), xs[i]? = some x → H0 D = none → H' D = some (.lst acc) → Pv D i acc H' → Kp F H0 H' → (∀ y H4, Kp F H' H4 → Pv D (i + 1) (acc ++ [y]) H4 → R y H4) → (∀ H4, Kp F H' H4 → Pv D (i + 1) acc H4 → R0 H4) →
      g x (wipe σ vs) H' fun σ2 H2 => wipe σ2 vs = wipe σ vs ∧ tt σ2 H2 fun b H3 => if b = true then te σ2 H3 R else R0 H3)
    (hd : ∀ D H' acc, H0 D = none → H' D = some (.lst acc) → Pv D xs.length acc H' → Kp F H0 H' → Qd D H') :
    ∀ D, H0 D = none → ∃ W : Nat → Nat → Hp → Prop, (∃ m, W 0 m (upd H0 D (.lst []))) ∧ ∀ i m H, W i m H →
      (J.stop i H ∧ Qd D H) ∨ (J.go i H ∧ ∃ Nx : Hp → Prop, (∀ H', Nx H' → ∃ m', m' < m ∧ W (i + 1) m' H') ∧ ∀ x H', J.yld i H x H' → g x (wipe σ vs) H' fun σ2 H2 => wipe σ2 vs = wipe σ vs ∧ tt σ2 H2 fun b H3 =>
        if b = true then te σ2 H3 fun y H4 => ∃ acc, H4 D = some (.lst acc) ∧ acc.length < sizeLine ∧ Nx (upd H4 D (.lst (acc ++ [y]))) else Nx H3) := by
  intro D hD
  have nFD : ¬ F D := fun z => hF D z hD
  refine ⟨fun i m H' => m = xs.length - i ∧ i ≤ xs.length ∧ ∃ acc, H' D = some (.lst acc) ∧ acc.length ≤ i ∧ Pv D i acc H' ∧ Kp F H0 H',
    ⟨_, rfl, Nat.zero_le _, [], upd_same, Nat.le_refl _, h0 D hD, (Kp.new hD).mono fun b z => z.elim⟩, ?_⟩
  rintro i m H ⟨rfl, hi, acc, hacc, hl, p, kp⟩
  by_cases hlt : i < xs.length
  · refine .inr ⟨W.go i H hlt (hG _ _ _ _ p kp), _, fun H' z => ⟨xs.length - (i + 1), by omega, z⟩, fun x H' y => ?_⟩
    obtain ⟨rfl, e⟩ := W.yld i H x H' hlt (hG _ _ _ _ p kp) y
    refine hs D i x acc _ _ _ e hD hacc p kp (fun y H4 k4 p4 => ?_) (fun H4 k4 p4 => ?_)
    · have h4 := k4.get hacc nFD
      refine ⟨acc, h4, Nat.lt_of_le_of_lt (Nat.le_trans hl (Nat.le_trans hi hz)) (by decide), rfl, hlt, acc ++ [y], upd_same, by rw [List.length_append, List.length_singleton]; omega, hSt D _ _ _ _ (Kp.put h4 id) p4, ?_⟩
      intro b o hb n
      rw [upd_ne (ne_of_none hb hD)]
      exact k4 b o (kp b o hb n) n
    · exact ⟨rfl, hlt, acc, k4.get hacc nFD, by omega, p4, fun b o hb n => k4 b o (kp b o hb n) n⟩
  · obtain rfl : i = xs.length := by omega
    exact .inl ⟨W.stop H (hG _ _ _ _ p kp), hd D H acc hD hacc p kp⟩
theorem pgt {α β : Type} {R : α → β → Prop} : ∀ {l : List α} {m : List β} {i : Nat} {x : α}, Paired R l m → l[i]? = some x → ∃ y, m[i]? = some y ∧ R x y
  | _, _, 0, _, .cons r _, e => by simp at e; subst e; exact ⟨_, rfl, r⟩
  | _, _, i + 1, _, .cons r t, e => by rw [List.getElem?_cons_succ] at e ⊢; exact pgt t e
  | _, _, _, _, .nil, e => by simp at e
theorem pgetr {α β : Type} {R : α → β → Prop} {l : List α} {m : List β} {i : Nat} {y : β} (h : Paired R l m) (e : m[i]? = some y) : ∃ x, l[i]? = some x ∧ R x y := by
  have hi : i < l.length := by rw [h.length]; exact (List.getElem?_eq_some_iff.mp e).1
  obtain ⟨z, ez, r⟩ := pgt h (List.getElem?_eq_getElem hi)
  rw [e] at ez; cases ez
  exact ⟨_, List.getElem?_eq_getElem hi, r⟩
/-! ### pairs of numbers and pages, groups of them, lists of groups -/
def PAt (O : Addr → Prop) (H : Hp) (v : V) (q : Int × List Int) : Prop := ∃ t l, v = .ref t ∧ H t = some (.tup [.int q.1, .ref l]) ∧ H l = some (.lst (q.2.map V.int)) ∧ O l
def GAt (O : Addr → Prop) (H : Hp) (v : V) (g : List (Int × List Int)) : Prop := ∃ a ws, v = .ref a ∧ H a = some (.lst ws) ∧ O a ∧ Paired (PAt O H) ws g
def GsAt (O : Addr → Prop) (H : Hp) (a : Addr) (gs : List (List (Int × List Int))) : Prop := ∃ vs, H a = some (.lst vs) ∧ O a ∧ Paired (GAt O H) vs gs
section
variable {O O' F : Addr → Prop} {H H' : Hp} {v : V} {q : Int × List Int} {g : List (Int × List Int)} {gs : List (List (Int × List Int))} {a : Addr}
theorem PAt.kp (s : Kp F H H') (n : ∀ b o, H b = some o → O b → ¬ F b) (h : PAt O H v q) : PAt O H' v q := by
  obtain ⟨t, l, e, ht, hl, o⟩ := h
  exact ⟨t, l, e, s.tup ht, s.get hl (n _ _ hl o), o⟩
theorem GAt.kp (s : Kp F H H') (n : ∀ b o, H b = some o → O b → ¬ F b) (h : GAt O H v g) : GAt O H' v g := by
  obtain ⟨a, ws, e, ha, o, p⟩ := h
  exact ⟨a, ws, e, s.get ha (n _ _ ha o), o, p.mono fun _ _ r => r.kp s n⟩
theorem GsAt.kp (s : Kp F H H') (n : ∀ b o, H b = some o → O b → ¬ F b) (h : GsAt O H a gs) : GsAt O H' a gs := by
  obtain ⟨vs, ha, o, p⟩ := h
  exact ⟨vs, s.get ha (n _ _ ha o), o, p.mono fun _ _ r => r.kp s n⟩
theorem PAt.own (n : ∀ b, (∃ o, H b = some o) → O b → O' b) (h : PAt O H v q) : PAt O' H v q := by
  obtain ⟨t, l, e, ht, hl, o⟩ := h
  exact ⟨t, l, e, ht, hl, n _ ⟨_, hl⟩ o⟩
theorem GAt.own (n : ∀ b, (∃ o, H b = some o) → O b → O' b) (h : GAt O H v g) : GAt O' H v g := by
  obtain ⟨a, ws, e, ha, o, p⟩ := h
  exact ⟨a, ws, e, ha, n _ ⟨_, ha⟩ o, p.mono fun _ _ r => r.own n⟩
def pD (q : Int × List Int) : PyData := .tuple [.int q.1, .list (q.2.map PyData.int)]
def gD (g : List (Int × List Int)) : PyData := .list (g.map pD)
def gsD (gs : List (List (Int × List Int))) : PyData := .list (gs.map gD)
theorem dp_all {K : PySem.W.Frag} {α : Type} {R : V → α → Prop} {f : α → PyData} (hf : ∀ v x, R v x → Dp K H v (f x)) : ∀ {vs : List V} {xs : List α}, Paired R vs xs → DpAll K H vs (xs.map f)
  | _, _, .nil => .nil
  | _, _, .cons r t => .cons (hf _ _ r) (dp_all hf t)
theorem PAt.dp {K : PySem.W.Frag} (h : PAt O H v q) : Dp K H v (pD q) := by
  obtain ⟨t, l, rfl, ht, hl, o⟩ := h
  exact .tup (SqT.of ht) (.cons (.int _) (.cons (.lst (SqL.of hl) (dp_ints _)) .nil))
theorem GAt.dp {K : PySem.W.Frag} (h : GAt O H v g) : Dp K H v (gD g) := by
  obtain ⟨a, ws, rfl, ha, o, p⟩ := h
  exact .lst (SqL.of ha) (dp_all (fun _ _ r => r.dp) p)
theorem GsAt.dp {K : PySem.W.Frag} (h : GsAt O H a gs) : Dp K H (.ref a) (gsD gs) := by
  obtain ⟨vs, ha, o, p⟩ := h
  exact .lst (SqL.of ha) (dp_all (fun _ _ r => r.dp) p)
theorem pD_sh (q : Int × List Int) : Sh 2 (pD q) := Sh.tuple fun d hd => by
  rcases List.mem_cons.mp hd with h | h
  · rw [h]; exact ⟨(Sh.int _).1, Nat.le_trans (Sh.int _).2.1 (by decide), (Sh.int _).2.2⟩
  · rw [List.mem_singleton.mp h]; exact Sh.list (sh_ints _)
theorem gD_sh (g : List (Int × List Int)) : Sh 3 (gD g) := Sh.list fun d hd => by
  obtain ⟨q, _, rfl⟩ := List.mem_map.mp hd
  exact pD_sh q
theorem gsD_sh (gs : List (List (Int × List Int))) : Sh 4 (gsD gs) := Sh.list fun d hd => by
  obtain ⟨q, _, rfl⟩ := List.mem_map.mp hd
  exact gD_sh q
theorem eqv_refl {d : PyData} (h : nb d = true) : PyData.eqv d d = true := (eqv_nb d d h h).mpr rfl
end
theorem if_both {b : Bool} {A B : Prop} (h : B) (g : b = true → B → A) : if b = true then A else B := by
  cases b
  · exact h
  · exact g rfl h
section
variable {X : Cx} {o lo hi : Expr} {to tl tu : TE} {p2 pos : Pos}
/-- xs[a:c] = ys of another list -/
def rSlS (v o x y : V) (H : Hp) (R : Hp → Prop) : Prop := ∃ (l b : Addr) (xs ys : List V) (a c : Int), v = .ref b ∧ o = .ref l ∧ x = .int a ∧ y = .int c ∧ H l = some (.lst xs) ∧ H b = some (.lst ys) ∧ l ≠ b ∧ 0 ≤ a ∧ a ≤ c ∧ c ≤ xs.length ∧ xs.length + ys.length ≤ sizeLine ∧ R (upd H l (.lst (xs.take a.toNat ++ ys ++ xs.drop c.toNat)))
def gSlS (to tl tu : TE) : TG := fun v σ H Q => to σ H fun o H1 => tl σ H1 fun x H2 => tu σ H2 fun y H3 => rSlS v o x y H3 (Q σ)
theorem pg_slS (ho : PE X o to) (hl : PE X lo tl) (hu : PE X hi tu) : PG X (.Subscript o (.Slice (some lo) (some hi) none p2) pos) (gSlS to tl tu) := by
  have ha : ∀ v, assign (.Subscript o (.Slice (some lo) (some hi) none p2) pos) X.env v = (do
      let ov ← holding [v] (eval o X.env)
      let iv ← holding [v, ov] (eval (.Slice (some lo) (some hi) none p2) X.env)
      standAt pos
      holding [v, ov, iv] (setItem ov iv v)
      release [iv, v, ov] []) := fun _ => rfl
  refine ⟨fun pins s σ H v u Q I r h => ?_⟩
  rw [ha]
  refine wpAny_bind (wpAny_holding (thn (ho.run pins s σ H _ I h) fun ov s1 ⟨x, H1, I1, r1, q1⟩ => ?_))
  refine wpAny_bind (wpAny_holding (wpAny_Slice ?_))
  rw [evalPart_some]
  refine thn (hl.run pins s1 σ H1 _ I1 q1) fun vl s2 ⟨y, H2, I2, r2, q2⟩ => ?_
  rw [evalPart_some]
  refine thn (hu.run pins s2 σ H2 _ I2 q2) fun vu s3 ⟨z, H3, I3, r3, q3⟩ => ?_
  rw [evalPart_none]
  refine wpAny_pure ?_
  obtain ⟨l, b, xs, ys, a, d, e1, e2, e3, e4, hl1, hb1, ne, h0, h1, h2, hz, q⟩ := q3
  subst e1; subst e2; subst e3; subst e4
  cases (show u = Value.ref _ from r)
  cases (show ov = Value.ref _ from r1)
  have I4 : Inv X pins σ H3 { s3 with heap := s3.heap.push { cls := .type "slice", data := .fields #[vl, vu, .none] } } := I3.kept (t' := s3.toks) fun b ob q => Heap.get?_push_of_some _ q
  refine wpAny_bind (wpAny_standAt (wpAny_bind (wpAny_holding (set_slice I4 hl1 hb1 ne (Heap.IsSliceOf.new ..) r2 r3 h0 h1 h2 hz fun s' I' => ?_))))
  exact wpAny_release ⟨σ, _, I', q⟩
theorem x_slS {H : Hp} {l b : Addr} {xs ys : List V} {a c : Int} {R : Hp → Prop} (h1 : H l = some (.lst xs)) (h2 : H b = some (.lst ys)) (n : l ≠ b) (h0 : 0 ≤ a) (h3 : a ≤ c) (h4 : c ≤ xs.length) (hz : xs.length + ys.length ≤ sizeLine)
    (q : ∀ H1, H1 l = some (.lst (xs.take a.toNat ++ ys ++ xs.drop c.toNat)) → Kp (F1 l) H H1 → R H1) : rSlS (.ref b) (.ref l) (.int a) (.int c) H R :=
  ⟨l, b, xs, ys, a, c, rfl, rfl, rfl, rfl, h1, h2, n, h0, h3, h4, hz, q _ upd_same (Kp.put h1 id)⟩
end
/-- sorted(d) of a dict of ints, dict(d), list.pop(i) -/
def rSrtD : List V → Hp → VK → Prop := fun xs H Q => ∃ (a : Addr) (kvs : List (Key × V)) (ks : List Int), xs = [.ref a] ∧ Rd H a (.dK kvs) ∧ kvs.map (·.1) = ks.map Sum.inl ∧ ks.length < 64 ∧ ∀ (ys : List Int) (p : Addr), ys.Perm ks → ys.Pairwise (· ≤ ·) → H p = none → Q (.ref p) (upd H p (.lst (ys.map V.int)))
theorem c_sortedDI {X : Cx} (hc : X.calm = true) : CallR X (.builtin "sorted") rSrtD := call_sortedDI hc
theorem x_srtD {H : Hp} {Q : VK} {a : Addr} {kvs : List (Key × V)} {ks : List Int} (h : H a = some (.dK kvs)) (e : kvs.map (·.1) = ks.map Sum.inl) (z : ks.length < 64) (q : ∀ (ys : List Int) (p : Addr) (H1 : Hp), ys.Perm ks → ys.Pairwise (· ≤ ·) → H p = none → Kp F0 H H1 → H1 p = some (.lst (ys.map V.int)) → Q (.ref p) H1) : rSrtD [.ref a] H Q :=
  ⟨a, kvs, ks, rfl, .inl h, e, z, fun ys p hy hs hp => q ys p _ hy hs hp (Kp.new hp) upd_same⟩
def rDictD : List V → Hp → VK → Prop := fun xs H Q => ∃ (a : Addr) (kvs : List (Key × V)), xs = [.ref a] ∧ Rd H a (.dK kvs) ∧ ∀ p, H p = none → Q (.ref p) (upd H p (.dK kvs))
theorem c_dictD {X : Cx} : CallR X (.type "dict") rDictD := call_dictD
theorem x_dictD {H : Hp} {Q : VK} {a : Addr} {kvs : List (Key × V)} (h : H a = some (.dK kvs)) (q : ∀ p H1, H p = none → Kp F0 H H1 → H1 p = some (.dK kvs) → Q (.ref p) H1) : rDictD [.ref a] H Q :=
  ⟨a, kvs, rfl, .inl h, fun p hp => q p _ hp (Kp.new hp) upd_same⟩
theorem if_so {α : Type} {x : α} {A B : Prop} (h : A) : if (some x).isSome = true then A else B := by simpa using h
theorem if_no {α : Type} {A B : Prop} (h : B) : if (none : Option α).isSome = true then A else B := by simpa using h
theorem x_gsl {to tl tu : TE} {v : V} {σ : L2.St} {H : Hp} {R : L2.St → Hp → Prop} (h : to σ H fun o H1 => tl σ H1 fun x H2 => tu σ H2 fun y H3 => rSlS v o x y H3 (R σ)) : gSlS to tl tu v σ H R := h
/-! ### numbers and points as bytes, in plain Lean -/
/-- the last w bytes of a number, most significant first -/
def wn : Nat → Int → List Int
  | 0, _ => []
  | w + 1, n => wn w (n / 256) ++ [n % 256]
def rn (l : List Int) : Int := l.foldl (fun a b => a * 256 + b) 0
def wp (p : List Int) : List Int := p.flatMap fun c => wn 2 (c + 32768)
def rp (l : List Int) (place : Nat) (d : Nat) : List Int := (List.range d).map fun k => rn ((l.drop (place + 2 * k)).take 2) - 32768
/-- a list of bytes -/
def Byt (l : List Int) : Prop := ∀ x ∈ l, 0 ≤ x ∧ x < 256
theorem wn_len : ∀ (w : Nat) (n : Int), (wn w n).length = w
  | 0, _ => rfl
  | w + 1, n => by show (wn w (n / 256) ++ [n % 256]).length = w + 1; rw [List.length_append, wn_len w]; rfl
theorem wn_byt : ∀ (w : Nat) (n : Int), Byt (wn w n)
  | 0, _, x, h => by cases h
  | w + 1, n, x, h => by
    rcases List.mem_append.mp (show x ∈ wn w (n / 256) ++ [n % 256] from h) with h | h
    · exact wn_byt w _ x h
    · rw [List.mem_singleton.mp h]; omega
theorem pow256 (k : Nat) : (0 : Int) < 256 ^ k := Int.pow_pos (by decide)
theorem wn_cons : ∀ (w : Nat) (n : Int), wn (w + 1) n = (n / 256 ^ w % 256) :: wn w n
  | 0, n => by show [] ++ [n % 256] = _; simp [wn]
  | w + 1, n => by
    show wn (w + 1) (n / 256) ++ [n % 256] = _
    rw [wn_cons w (n / 256)]
    show (n / 256 / 256 ^ w % 256) :: (wn w (n / 256) ++ [n % 256]) = (n / 256 ^ (w + 1) % 256) :: wn (w + 1) n
    rw [Int.ediv_ediv_of_nonneg (by decide), Int.mul_comm, ← Int.pow_succ]; rfl
theorem rn_app (l : List Int) (x : Int) : rn (l ++ [x]) = rn l * 256 + x := by unfold rn; rw [List.foldl_append]; rfl
theorem rn_wn : ∀ (w : Nat) (n : Int), 0 ≤ n → n < 256 ^ w → rn (wn w n) = n
  | 0, n, h0, h1 => by rw [Int.pow_zero] at h1; show (0 : Int) = n; omega
  | w + 1, n, h0, h1 => by
    show rn (wn w (n / 256) ++ [n % 256]) = n
    rw [Int.pow_succ] at h1
    rw [rn_app, rn_wn w (n / 256) (by omega) (by omega)]
    omega
theorem rn_nn {l : List Int} (h : Byt l) : 0 ≤ rn l := by
  have q : ∀ (l : List Int) (a : Int), 0 ≤ a → Byt l → 0 ≤ l.foldl (fun a b => a * 256 + b) a := by
    intro l
    induction l with
    | nil => intro a h _; exact h
    | cons x l ih =>
      intro a h0 h
      have := h x (by simp)
      exact ih _ (show 0 ≤ a * 256 + x by omega) fun y hy => h y (List.mem_cons_of_mem _ hy)
  exact q l 0 (by decide) h
theorem wn_get {w : Nat} {n : Int} {k : Nat} (h : k < w) : (wn w n)[k]? = some (n / 256 ^ (w - 1 - k) % 256) := by
  induction w generalizing n k with
  | zero => omega
  | succ w ih =>
    rw [wn_cons]
    cases k with
    | zero => simp
    | succ k =>
      rw [List.getElem?_cons_succ, ih (by omega)]
      congr 4; omega
theorem pow_256 (k : Nat) : (2 : Int) ^ (8 * k) = 256 ^ k := by rw [Int.pow_mul]; rfl
theorem wp_app (p : List Int) (c : Int) : wp (p ++ [c]) = wp p ++ wn 2 (c + 32768) := by unfold wp; rw [List.flatMap_append]; simp
theorem wp_len (p : List Int) : (wp p).length = 2 * p.length := by
  induction p with
  | nil => rfl
  | cons c p ih =>
    show (wn 2 (c + 32768) ++ wp p).length = 2 * (p.length + 1)
    rw [List.length_append, ih, wn_len]; omega
theorem wp_byt (p : List Int) : Byt (wp p) := by
  intro x h
  obtain ⟨c, _, hx⟩ := List.mem_flatMap.mp h
  exact wn_byt _ _ x hx
/-- coordinates in their range -/
def Crd (p : List Int) : Prop := ∀ x ∈ p, -32768 ≤ x ∧ x ≤ 32767
theorem wp_drop (p : List Int) : ∀ k : Nat, (wp p).drop (2 * k) = wp (p.drop k)
  | 0 => by simp
  | k + 1 => by
    cases p with
    | nil => simp [wp]
    | cons c p =>
      show (wn 2 (c + 32768) ++ wp p).drop (2 * (k + 1)) = wp (p.drop k)
      rw [← wp_drop p k, List.drop_append, wn_len]
      rw [List.drop_eq_nil_of_le (by rw [wn_len]; omega), List.nil_append]
      congr 1
theorem rp_wp {p : List Int} (h : Crd p) (a b : List Int) : rp (a ++ wp p ++ b) a.length p.length = p := by
  unfold rp
  apply List.ext_getElem
  · simp
  · intro k h1 h2
    simp only [List.getElem_map, List.getElem_range]
    have e : (a ++ wp p ++ b).drop (a.length + 2 * k) = wn 2 (p[k] + 32768) ++ (wp (p.drop (k + 1)) ++ b) := by
      rw [List.append_assoc, List.drop_append, List.drop_eq_nil_of_le (by omega), List.nil_append, Nat.add_sub_cancel_left, List.drop_append, wp_drop]
      rw [show 2 * k - (wp p).length = 0 by rw [wp_len]; omega, List.drop_zero, List.drop_eq_getElem_cons h2]
      show wn 2 (p[k] + 32768) ++ wp (p.drop (k + 1)) ++ b = _
      rw [List.append_assoc]
    have hc := h p[k] (by simp)
    rw [e, List.take_append_of_le_length (by rw [wn_len]; omega), List.take_of_length_le (Nat.le_of_eq (wn_len _ _)), rn_wn _ _ (by omega) (by omega)]
    omega
/-! ### groups, in plain Lean -/
def chunk (q : Int × List Int) : List Int := wn 4 q.1 ++ q.2
def wg (g : List (Int × List Int)) : List Int := wn 4 g.length ++ g.flatMap chunk
structure Good (g : List (Int × List Int)) : Prop where
  n : g.length ≤ 60
  q : ∀ q ∈ g, 0 ≤ q.1 ∧ q.1 < 256 ^ 4 ∧ q.2.length = 256
theorem chunk_len {q : Int × List Int} (h : q.2.length = 256) : (chunk q).length = 260 := by unfold chunk; rw [List.length_append, wn_len, h]
theorem fm_len {α : Type} {f : α → List Int} {n : Nat} : ∀ {g : List α}, (∀ q ∈ g, (f q).length = n) → (g.flatMap f).length = n * g.length
  | [], _ => rfl
  | q :: g, h => by
    rw [List.flatMap_cons, List.length_append, h q (by simp), fm_len (g := g) fun r hr => h r (List.mem_cons_of_mem _ hr), List.length_cons, Nat.mul_succ, Nat.add_comm]
theorem fm_drop {α : Type} {f : α → List Int} {n : Nat} : ∀ {g : List α} {k : Nat} {q : α}, (∀ q ∈ g, (f q).length = n) → g[k]? = some q → (g.flatMap f).drop (n * k) = f q ++ (g.drop (k + 1)).flatMap f
  | [], _, _, _, e => by simp at e
  | r :: g, 0, q, h, e => by
    simp only [List.getElem?_cons_zero, Option.some.injEq] at e
    subst e
    rw [Nat.mul_zero, List.drop_zero, List.flatMap_cons]; rfl
  | r :: g, k + 1, q, h, e => by
    rw [List.getElem?_cons_succ] at e
    rw [List.flatMap_cons, Nat.mul_succ, Nat.add_comm (n * k) n, ← List.drop_drop, List.drop_left' (h r (by simp)), fm_drop (g := g) (fun r hr => h r (List.mem_cons_of_mem _ hr)) e]; rfl
theorem wg_len {g : List (Int × List Int)} (h : Good g) : (wg g).length = 4 + 260 * g.length := by
  unfold wg
  rw [List.length_append, wn_len, fm_len fun q hq => chunk_len (h.q q hq).2.2]
/-- what is read at a group's beginning -/
theorem rd_count {A T ds : List Int} {g : List (Int × List Int)} (h : Good g) (e : ds = A ++ (wg g ++ T)) : rn ((ds.drop A.length).take 4) = g.length := by
  subst e
  rw [List.drop_left, wg, List.append_assoc, List.take_left' (wn_len 4 _)]
  exact rn_wn 4 _ (by omega) (by have := h.n; omega)
theorem rd_chunk {A T ds : List Int} {g : List (Int × List Int)} {k : Nat} {q : Int × List Int} (h : Good g) (e : ds = A ++ (wg g ++ T)) (hq : g[k]? = some q) :
    rn ((ds.drop (A.length + 4 + 260 * k)).take 4) = q.1 ∧ (ds.drop (A.length + 4 + 260 * k + 4)).take 256 = q.2 := by
  have hm := h.q q (List.mem_of_getElem? hq)
  have hd : ds.drop (A.length + 4 + 260 * k) = wn 4 q.1 ++ (q.2 ++ ((g.drop (k + 1)).flatMap chunk ++ T)) := by
    subst e
    rw [Nat.add_assoc, ← List.drop_drop, List.drop_left, wg, List.append_assoc, ← List.drop_drop, List.drop_left' (wn_len 4 _), List.drop_append_of_le_length, fm_drop (fun q hq => chunk_len (h.q q hq).2.2) hq]
    · unfold chunk; simp only [List.append_assoc]
    · rw [fm_len fun q hq => chunk_len (h.q q hq).2.2]
      have := (List.getElem?_eq_some_iff.mp hq).1
      omega
  constructor
  · rw [hd, List.take_left' (wn_len 4 _)]
    exact rn_wn 4 _ hm.1 hm.2.1
  · rw [← List.drop_drop, hd, List.drop_left' (wn_len 4 _), List.take_left' hm.2.2]
/-- the beginning of a group that is cut off -/
theorem rd_part {A ds : List Int} {g : List (Int × List Int)} {j : Nat} (h : Good g) (e : ds = A ++ (wg g).take j) (hj : 4 ≤ j) : rn ((ds.drop A.length).take 4) = g.length := by
  subst e
  rw [List.drop_left, List.take_take, Nat.min_eq_left hj, wg, List.take_left' (wn_len 4 _)]
  exact rn_wn 4 _ (by omega) (by have := h.n; omega)
theorem wn4 {n : Int} (h0 : 0 ≤ n) (h1 : n < 256 ^ 4) : [n / 2 ^ 24, n / 2 ^ 16 % 256, n / 2 ^ 8 % 256, n % 256] = wn 4 n := by
  have e : wn 4 n = [n / 256 / 256 / 256 % 256, n / 256 / 256 % 256, n / 256 % 256, n % 256] := rfl
  rw [e]
  simp only [List.cons.injEq, and_true]
  refine ⟨?_, ?_, ?_⟩ <;> omega
theorem takes {α : Type} {f : α → List Int} {l : List α} {i : Nat} {x : α} (e : l[i]? = some x) : (l.take (i + 1)).flatMap f = (l.take i).flatMap f ++ f x := by
  rw [List.take_succ, e, List.flatMap_append]; simp
/-- the groups' flat form at the i-th -/
theorem flat_at {gs : List (List (Int × List Int))} {i : Nat} {g : List (Int × List Int)} (T : List Int) (e : gs[i]? = some g) : gs.flatMap wg ++ T = (gs.take i).flatMap wg ++ (wg g ++ ((gs.drop (i + 1)).flatMap wg ++ T)) := by
  have hi := (List.getElem?_eq_some_iff.mp e).1
  have h2 : gs.drop i = g :: gs.drop (i + 1) := by
    rw [List.drop_eq_getElem_cons hi, (List.getElem?_eq_some_iff.mp e).2]
  conv => lhs; rw [← List.take_append_drop i gs, List.flatMap_append, h2, List.flatMap_cons]
  simp only [List.append_assoc]
/-! ### distances, in plain Lean -/
def gap (x y : Int) : Int := if x - y < 0 then -(x - y) else x - y
def diffs : List Int → List Int → List Int
  | x :: a, y :: b => gap x y :: diffs a b
  | _, _ => []
def mx : List Int → Int
  | [] => 0
  | x :: l => max x (mx l)
def pos1 (x : Int) : Int := if 0 < x then 1 else 0
def dist (m : Str) (a b : List Int) : Int := if m = "sum" then (diffs a b).sum else if m = "greatest" then mx (diffs a b) else ((diffs a b).map pos1).sum
theorem gap_nn (x y : Int) : 0 ≤ gap x y := by unfold gap; split <;> omega
theorem gap_comm (x y : Int) : gap x y = gap y x := by unfold gap; split <;> split <;> omega
theorem gap_zero {x y : Int} : gap x y = 0 ↔ x = y := by unfold gap; split <;> omega
theorem gap_tri (x y z : Int) : gap x z ≤ gap x y + gap y z := by unfold gap; split <;> split <;> split <;> omega
theorem diffs_len : ∀ {a b : List Int}, a.length = b.length → (diffs a b).length = a.length
  | [], _, _ => rfl
  | x :: a, y :: b, h => by
    show (diffs a b).length + 1 = a.length + 1
    rw [diffs_len (by simpa using h)]
theorem diffs_nn : ∀ {a b : List Int}, ∀ x ∈ diffs a b, 0 ≤ x
  | [], [], x, h => by cases h
  | [], _ :: _, x, h => by cases h
  | _ :: _, [], x, h => by cases h
  | u :: a, v :: b, x, h => by
    rcases List.mem_cons.mp (show x ∈ gap u v :: diffs a b from h) with h | h
    · rw [h]; exact gap_nn _ _
    · exact diffs_nn x h
theorem diffs_at : ∀ {a b : List Int} {i : Nat} {x y : Int}, a[i]? = some x → b[i]? = some y → (diffs a b)[i]? = some (gap x y)
  | u :: a, v :: b, 0, x, y, h1, h2 => by
    cases (Option.some.inj h1); cases (Option.some.inj h2); rfl
  | u :: a, v :: b, i + 1, x, y, h1, h2 => diffs_at (a := a) (b := b) (i := i) h1 h2
  | [], _, i, x, y, h1, _ => by simp at h1
  | _ :: _, [], i, x, y, _, h2 => by simp at h2
theorem mx_nn : ∀ l : List Int, 0 ≤ mx l
  | [] => by decide
  | x :: l => by
    have h := mx_nn l
    show 0 ≤ max x (mx l)
    omega
theorem mx_app (l : List Int) (x : Int) (hx : 0 ≤ x) : mx (l ++ [x]) = max (mx l) x := by
  induction l with
  | nil => show max x 0 = max 0 x; omega
  | cons y l ih => show max y (mx (l ++ [x])) = max (max y (mx l)) x; rw [ih]; omega
theorem le_mx : ∀ {l : List Int} {x : Int}, x ∈ l → x ≤ mx l
  | y :: l, x, h => by
    show x ≤ max y (mx l)
    rcases List.mem_cons.mp h with h | h
    · omega
    · have := le_mx h; omega
theorem mx_mem : ∀ {l : List Int}, 0 < l.length → (∀ x ∈ l, 0 ≤ x) → mx l ∈ l
  | [x], _, h => by
    have : mx [x] = x := by
      have := h x (by simp)
      show max x 0 = x; omega
    rw [this]; simp
  | x :: y :: l, _, h => by
    have ih := mx_mem (l := y :: l) (by simp) fun z hz => h z (List.mem_cons_of_mem _ hz)
    show max x (mx (y :: l)) ∈ _
    by_cases e : x ≤ mx (y :: l)
    · rw [show max x (mx (y :: l)) = mx (y :: l) by omega]; exact List.mem_cons_of_mem _ ih
    · rw [show max x (mx (y :: l)) = x by omega]; simp
theorem mx_uniq {l : List Int} {m : Int} (h0 : ∀ x ∈ l, 0 ≤ x) (hm : m ∈ l) (h : ∀ y, y ∈ l → y ≤ m) : m = mx l := by
  have h1 := le_mx hm
  have h2 := h _ (mx_mem (List.length_pos_of_mem hm) h0)
  omega
theorem sum_nn : ∀ {l : List Int}, (∀ x ∈ l, 0 ≤ x) → 0 ≤ l.sum
  | [], _ => by simp
  | x :: l, h => by
    have := sum_nn (l := l) fun z hz => h z (List.mem_cons_of_mem _ hz)
    have := h x (by simp)
    rw [List.sum_cons]; omega
theorem pos1_nn (x : Int) : 0 ≤ pos1 x := by unfold pos1; split <;> omega
theorem dist_nn (m : Str) (a b : List Int) : 0 ≤ dist m a b := by
  unfold dist
  split
  · exact sum_nn diffs_nn
  · split
    · exact mx_nn _
    · exact sum_nn fun x h => by
        obtain ⟨y, _, rfl⟩ := List.mem_map.mp h
        exact pos1_nn y
theorem diffs_comm : ∀ a b : List Int, diffs a b = diffs b a
  | [], [] => rfl
  | [], _ :: _ => rfl
  | _ :: _, [] => rfl
  | x :: a, y :: b => by
    show gap x y :: diffs a b = gap y x :: diffs b a
    rw [gap_comm, diffs_comm a b]
theorem dist_comm (m : Str) (a b : List Int) : dist m a b = dist m b a := by unfold dist; rw [diffs_comm a b]
theorem diffs_zero : ∀ {a b : List Int}, a.length = b.length → ((∀ x ∈ diffs a b, x = 0) ↔ a = b)
  | [], [], _ => by simp [diffs]
  | x :: a, y :: b, h => by
    have ih := diffs_zero (a := a) (b := b) (by simpa using h)
    show (∀ z ∈ gap x y :: diffs a b, z = 0) ↔ _
    constructor
    · intro k
      have e := gap_zero.mp (k (gap x y) (by simp))
      rw [e, ih.mp fun z hz => k z (List.mem_cons_of_mem _ hz)]
    · intro k z hz
      cases k
      rcases List.mem_cons.mp hz with hz | hz
      · rw [hz]; exact gap_zero.mpr rfl
      · exact ih.mpr rfl z hz
theorem sum_zero : ∀ {l : List Int}, (∀ x ∈ l, 0 ≤ x) → (l.sum = 0 ↔ ∀ x ∈ l, x = 0)
  | [], _ => by simp
  | x :: l, h => by
    have ih := sum_zero (l := l) fun z hz => h z (List.mem_cons_of_mem _ hz)
    have h1 := sum_nn (l := l) fun z hz => h z (List.mem_cons_of_mem _ hz)
    have h2 := h x (by simp)
    rw [List.sum_cons]
    constructor
    · intro e z hz
      rcases List.mem_cons.mp hz with hz | hz
      · omega
      · exact ih.mp (by omega) z hz
    · intro k
      rw [ih.mpr fun z hz => k z (List.mem_cons_of_mem _ hz), k x (by simp)]; rfl
theorem mx_zero : ∀ {l : List Int}, (∀ x ∈ l, 0 ≤ x) → (mx l = 0 ↔ ∀ x ∈ l, x = 0)
  | l, h => by
    constructor
    · intro e z hz
      have := le_mx hz; have := h z hz; omega
    · intro k
      cases l with
      | nil => rfl
      | cons x l => exact k _ (mx_mem (by simp) h)
theorem dist_zero {m : Str} {a b : List Int} (h : a.length = b.length) : dist m a b = 0 ↔ a = b := by
  rw [← diffs_zero h]
  unfold dist
  split
  · exact sum_zero diffs_nn
  · split
    · exact mx_zero diffs_nn
    · rw [sum_zero fun x hx => by obtain ⟨y, _, rfl⟩ := List.mem_map.mp hx; exact pos1_nn y]
      constructor
      · intro k x hx
        have := k _ (List.mem_map.mpr ⟨x, hx, rfl⟩)
        have := diffs_nn x hx
        unfold pos1 at *; split at * <;> omega
      · intro k x hx
        obtain ⟨y, hy, rfl⟩ := List.mem_map.mp hx
        rw [k y hy]; rfl
theorem tri_sum : ∀ {a b c : List Int}, a.length = b.length → b.length = c.length → (diffs a c).sum ≤ (diffs a b).sum + (diffs b c).sum
  | [], [], [], _, _ => by decide
  | x :: a, y :: b, z :: c, h1, h2 => by
    have := tri_sum (a := a) (b := b) (c := c) (by simpa using h1) (by simpa using h2)
    have := gap_tri x y z
    show (gap x z :: diffs a c).sum ≤ (gap x y :: diffs a b).sum + (gap y z :: diffs b c).sum
    simp only [List.sum_cons]; omega
theorem tri_mx : ∀ {a b c : List Int}, a.length = b.length → b.length = c.length → mx (diffs a c) ≤ mx (diffs a b) + mx (diffs b c)
  | [], [], [], _, _ => by decide
  | x :: a, y :: b, z :: c, h1, h2 => by
    have := tri_mx (a := a) (b := b) (c := c) (by simpa using h1) (by simpa using h2)
    have := gap_tri x y z
    show max (gap x z) (mx (diffs a c)) ≤ max (gap x y) (mx (diffs a b)) + max (gap y z) (mx (diffs b c))
    omega
theorem tri_cnt : ∀ {a b c : List Int}, a.length = b.length → b.length = c.length → ((diffs a c).map pos1).sum ≤ ((diffs a b).map pos1).sum + ((diffs b c).map pos1).sum
  | [], [], [], _, _ => by decide
  | x :: a, y :: b, z :: c, h1, h2 => by
    have := tri_cnt (a := a) (b := b) (c := c) (by simpa using h1) (by simpa using h2)
    have := gap_tri x y z
    have := gap_nn x y
    have := gap_nn y z
    have q : pos1 (gap x z) ≤ pos1 (gap x y) + pos1 (gap y z) := by unfold pos1; split <;> split <;> split <;> omega
    show ((gap x z :: diffs a c).map pos1).sum ≤ ((gap x y :: diffs a b).map pos1).sum + ((gap y z :: diffs b c).map pos1).sum
    simp only [List.map_cons, List.sum_cons]; omega
theorem dist_tri {m : Str} {a b c : List Int} (h1 : a.length = b.length) (h2 : b.length = c.length) : dist m a c ≤ dist m a b + dist m b c := by
  unfold dist
  split
  · exact tri_sum h1 h2
  · split
    · exact tri_mx h1 h2
    · exact tri_cnt h1 h2
theorem dist_self (m : Str) (a : List Int) : dist m a a = 0 := (dist_zero rfl).mpr rfl
section
variable {P : Program} {w : World} {K : PySem.W.Frag} {mg : Str → Option Value} {base : Heap} {c : Cl}
def Dr (K : PySem.W.Frag) (H : Hp) (st sc : Addr) : Prop := ∃ (i v : Int) (ns : List Int), 0 ≤ i ∧ 0 ≤ v ∧ H st = some (.lst [.int i, .int v]) ∧ ns.length ≤ 63 ∧ Sc K H sc ns
def sp__law_draw (K : PySem.W.Frag) : Sp := fun vs H Q _ => ∃ st sc n, vs = [.ref st, .ref sc, .int n] ∧ 0 < n ∧ n < 2 ^ 64 ∧ Dr K H st sc ∧
  ∀ d H', 0 ≤ d → d < n → Dr K H' st sc → Kp (F1 st) H H' → Q (.int d) H'
--HOT _law_draw
theorem ok__law_draw (T : Txt K mg c) : GF P w K mg base CX0 1 "_law_draw" (sp__law_draw K) := by
  obtain ⟨f, fd, F, gm⟩ := T.f__law_draw
  refine ⟨f, fd, ["_law_state", "_law_script", "_law_size"], F.ok sc__law_draw ?_ (fun cdv A outer s H vs Q E hr h => ?_), gm, F.kp, (F.binds (ps := ["_law_state", "_law_script", "_law_size"]) fun _ _ _ _ _ _ us hl => match us, hl with | [_, _, _], _ => rfl)⟩
  · rintro vs H Q E ⟨_, _, _, rfl, _⟩
    rfl
  · obtain ⟨st, sc, n, rfl, hn0, hn1, ⟨i, v, ns, hi, hv, hst, hlen, hsc⟩, k⟩ := h
    refine ⟨_, (C8.pss_cut (ps_if (pt_cmpR op_eq (pe_ix (r := rIxL K) ix_list (pv 0) pe_int (fun _ _ => rfl)) pe_int (nomark _)) (pss_cons (ps_set (i := 3) sc__law_draw.nd rfl (Or.inl rfl) pe_int)
      (C8.pss_cut (ps_if (pt_cmpR op_gt (pe_callB (r := rLenQ K) c_len (by rfl) T.z_len PySem.boot_len (pa_cons (pv 1) pa_nil)) pe_int (nomark _)) (pss_one (ps_set (i := 3) sc__law_draw.nd rfl (Or.inl rfl) (pe_ix (r := rIxL K) ix_list (pv 1) (pe_op op_mod (pe_ix (r := rIxL K) ix_list (pv 0) pe_int (fun _ _ => rfl)) (pe_callB (r := rLenQ K) c_len (by rfl) T.z_len PySem.boot_len (pa_cons (pv 1) pa_nil))) (fun _ _ => rfl)))) pss_nil)
      (C8.pss_cut (ps_if (pt_cmpR op_lt (pv 3) pe_int (nomark _)) (pss_one (ps_set (i := 3) sc__law_draw.nd rfl (Or.inl rfl) (pe_op op_sub pe_int (pe_op op_mul pe_int (pv 3))))) pss_nil)
      (pss_cons (ps_set (i := 4) sc__law_draw.nd rfl (Or.inl rfl) (pe_op op_mod (pe_callTy c_int (by rfl) T.z_int (by decide +kernel) (pa_cons (pe_op op_mul (pe_op op_add (pe_op op_add (pv 3) (pe_op op_mul (pe_ix (r := rIxL K) ix_list (pv 0) pe_int (fun _ _ => rfl)) pe_int)) pe_int) pe_int) pa_nil)) pe_int))
      (pss_cons (ps_asg (pe_op op_mod (pe_callTy c_int (by rfl) T.z_int (by decide +kernel) (pa_cons (pe_op op_add (pe_op op_mul (pv 4) pe_int) (pe_op op_mul (pe_ix (r := rIxL K) ix_list (pv 0) pe_int (fun _ _ => rfl)) pe_int)) pa_nil)) pe_int) (pg_sub (pv 0) pe_int set_list))
      (C8.pss_cut (ps_if (PW.pt (pw_and (pt_cmpR op_ge (pv 3) (pe_op op_pow pe_int pe_int) (nomark _)) (pw_and1 (pt_cmpR op_lt (pe_ix (r := rIxL K) ix_list (pv 0) pe_int (fun _ _ => rfl)) (pe_callB (r := rLenQ K) c_len (by rfl) T.z_len PySem.boot_len (pa_cons (pv 1) pa_nil)) (nomark _))))) (pss_one (ps_asg (pv 3) (pg_sub (pv 0) pe_int set_list))) pss_nil)
      (pss_one (ps_asg (pe_op op_add (pe_ix (r := rIxL K) ix_list (pv 0) pe_int (fun _ _ => rfl)) pe_int) (pg_sub (pv 0) pe_int set_list))))))))) pss_nil)
      (pss_cons (ps_set (i := 5) sc__law_draw.nd rfl (Or.inl rfl) (pe_op op_mod (pe_callTy c_int (by rfl) T.z_int (by decide +kernel) (pa_cons (pe_ix (r := rIxL K) ix_list (pv 0) pe_int (fun _ _ => rfl)) pa_nil)) (pv 2)))
      (pss_cons (ps_asg (pe_op op_fdivW (pe_ix (r := rIxL K) ix_list (pv 0) pe_int (fun _ _ => rfl)) (pv 2)) (pg_sub (pv 0) pe_int set_list))
      (pss_one (ps_ret (pv 5)))))), ?_⟩
    walk_at "cx"
    walk_at "rd"
    have kpu : ∀ o, Kp (F1 st) H (upd H st o) := fun o => Kp.put hst id
    refine x_cut (fun σ' H' => ∃ (i' v' : Int) (u1 u2 : Option V), σ' = [some (.ref st), some (.ref sc), some (.int n), u1, u2, none] ∧ 0 ≤ i' ∧ 0 ≤ v' ∧ H' = upd H st (.lst [.int i', .int v'])) ?_ ?_
    · walk_at "rd"
      refine ite_dec (fun e => ?_) (fun e => ?_)
      · walk_at "rd"
        refine x_cut (fun σ' H' => ∃ (c : Int), σ' = [some (.ref st), some (.ref sc), some (.int n), some (.int c), none, none] ∧ H = H') ?_ ?_
        · walk_at "rd"
          refine ite_dec (fun e1 => ?_) (fun e1 => ?_)
          · have hl : (0 : Int) < ((ns.map V.int).length : Int) := e1
            have hb := Int.emod_lt_of_pos i hl
            have hb0 := Int.emod_nonneg i (Int.ne_of_gt hl)
            walk_at "rd"
            refine x_ixL hsc.sq (v := .int (ns.getD (i % ((ns.map V.int).length : Int)).toNat 0)) (atI_at (i % ((ns.map V.int).length : Int)).toNat (by omega) ?_) ?_
            · rw [List.length_map] at *
              rw [List.getElem?_map, List.getD_eq_getElem?_getD, List.getElem?_eq_getElem (by omega)]
              rfl
            · walk_at "rd"
              exact ⟨_, rfl, rfl⟩
          · exact ⟨0, rfl, rfl⟩
        · rintro σ' H' ⟨c, rfl, rfl⟩
          refine x_cut (fun σ' H' => ∃ (c : Int), 0 ≤ c ∧ σ' = [some (.ref st), some (.ref sc), some (.int n), some (.int c), none, none] ∧ H = H') ?_ ?_
          · walk_at "rd"
            refine ite_dec (fun e2 => ?_) (fun e2 => ?_)
            · walk_at "rd"
              exact ⟨_, by omega, rfl, rfl⟩
            · exact ⟨c, by omega, rfl, rfl⟩
          · rintro σ' H' ⟨c, hc, rfl, rfl⟩
            walk_at "rd"
            have hm0 : ∀ z : Int, 0 ≤ z % 4294967291 := fun z => Int.emod_nonneg z (by decide)
            refine x_cut (fun σ' H' => ∃ (v' : Int) (u1 : Option V), 0 ≤ v' ∧ σ' = [some (.ref st), some (.ref sc), some (.int n), some (.int c), u1, none] ∧ H' = upd H st (.lst [.int i, .int v'])) ?_ ?_
            · walk_at "rd"
              refine ite_dec (fun e3 => ?_) (fun e3 => ?_)
              · walk_at "rd"
                refine x_lenL (hsc.kp (kpu _)).sq ?_
                walk_at "rd"
                refine ite_dec (fun e4 => ?_) (fun e4 => ?_)
                · walk_at "rd"
                  exact ⟨c, _, hc, rfl, upd_upd⟩
                · exact ⟨_, _, hm0 _, rfl, rfl⟩
              · exact ite_bool (fun z => by cases z) (fun _ => ⟨_, _, hm0 _, rfl, rfl⟩)
            · rintro σ' H' ⟨v', u1, hv', rfl, rfl⟩
              walk_at "rd"
              exact ⟨i + 1, v', _, _, rfl, by omega, hv', upd_upd⟩
      · exact ⟨i, v, _, _, rfl, hi, hv, (upd_id hst).symm⟩
    · rintro σ' H' ⟨i', v', u1, u2, rfl, hi', hv', rfl⟩
      walk_at "rd"
      refine k _ _ (Int.emod_nonneg _ (by omega)) (Int.emod_lt_of_pos _ hn0) ⟨i', v' / n, ns, hi', Int.ediv_nonneg hv' (by omega), upd_same, hlen, ?_⟩ ?_
      · rw [upd_upd]; exact hsc.kp (kpu _)
      · rw [upd_upd]; exact kpu _
--TOH
theorem Dr.kp {K : PySem.W.Frag} {F : Addr → Prop} {H H' : Hp} {st sc : Addr} (s : Kp F H H') (d : Dr K H st sc) (n : ¬ F st) : Dr K H' st sc := by
  obtain ⟨i, v, ns, hi, hv, hst, hl, hs⟩ := d
  exact ⟨i, v, ns, hi, hv, s.get hst n, hl, hs.kp s⟩
theorem Dr.ne {K : PySem.W.Frag} {H H0 : Hp} {st sc D : Addr} {o : HO} (d : H0 st = some o) (n : H0 D = none) : st ≠ D := ne_of_none d n
theorem Dr.off {K : PySem.W.Frag} {H : Hp} {st sc D : Addr} {o : HO} (d : Dr K H st sc) (n : st ≠ D) (m : ∀ u, H D = some u → ¬ Fix u) : Dr K (upd H D o) st sc := by
  obtain ⟨i, v, ns, hi, hv, hst, hl, hs⟩ := d
  refine ⟨i, v, ns, hi, hv, by rw [upd_ne n]; exact hst, hl, ?_⟩
  rcases hs with ⟨f, h⟩ | h
  · refine .inl ⟨f, ?_⟩
    rw [upd_ne fun e => m (.frz f (.lst (ns.map V.int))) (by rw [← e]; exact h) trivial]
    exact h
  · exact .inr h
theorem Dr.trk {K : PySem.W.Frag} {H : Hp} {st sc : Addr} (h : Dr K H st sc) : ∃ o, H st = some o := by
  obtain ⟨_, _, _, _, _, e, _⟩ := h
  exact ⟨_, e⟩
theorem Dr.new {K : PySem.W.Frag} {H : Hp} {st sc l : Addr} (h : Dr K H st sc) (n : H l = none) : l ≠ st := fun e => by
  obtain ⟨_, z⟩ := h.trk
  rw [← e, n] at z; cases z
end
section
variable {P : Program} {w : World} {K : PySem.W.Frag} {mg : Str → Option Value} {base : Heap} {c : Cl}
def sp_write_number : Sp := fun vs H Q _ => ∃ (k : Nat) (n : Int), vs = [.int k, .int n] ∧ k ≤ 8 ∧ ∀ p H', H p = none → Kp F0 H H' → H' p = some (.lst ((wn k n).map V.int)) → Q (.ref p) H'
theorem ok_write_number (T : Txt K mg c) : GF P w K mg base CX0 1 "write_number" sp_write_number := by
  obtain ⟨f, fd, F, gm⟩ := T.f_write_number
  refine ⟨f, fd, ["width", "number"], F.ok sc_write_number ?_ (fun cdv A outer s H vs Q E hr h => ?_), gm, F.kp, (F.binds (ps := ["width", "number"]) fun _ _ _ _ _ _ us hl => match us, hl with | [_, _], _ => rfl)⟩
  · rintro vs H Q E ⟨_, _, rfl, _⟩
    rfl
  · obtain ⟨n, z, rfl, hn, k⟩ := h
    refine ⟨_, (pss_one (ps_ret (pe_lc (own := [("k", 2)]) (g := (gName 2)) (tt := tYes) rfl sc_write_number.nd (pi_range1 (by rfl) T.z_range (pa_cons (pv 0) pa_nil)) (blkOk_by (N := ["width", "number", "k"]) (sc := defScope s_write_number) (by decide +kernel)) (fun _ _ _ _ _ => (pg_name (i := 2) sc_write_number.nd rfl (Or.inl rfl))) (fun _ _ _ _ _ => pts_nil) (fun _ _ _ _ _ => (pe_op o_and (pe_op op_shr (pv 1) (pe_op op_mul pe_int (pe_op op_sub (pe_op op_sub (pv 0) pe_int) (pv 2)))) pe_int))))), ?_⟩
    walk_at "cx"
    walk_at "rd"
    refine wlcP (ys := (wn n z).map V.int) Wk.rng (by rw [List.length_map, rgl_len, wn_len]; rfl) (by rw [rgl_len]; omega) (fun _ _ => trivial) (fun i x y H' R ex ey kp hR => ?_) (fun D H1 hD kp hDl => k D H1 hD kp hDl)
    obtain ⟨hi, rfl⟩ := rgl_at ex
    have hi' : i < n := hi
    rw [List.getElem?_map, wn_get hi'] at ey
    cases ey
    walk_at "rd"
    refine ⟨rfl, ?_⟩
    walk_at "rd"
    have e : 8 * ((n : Int) - 1 - (0 + (i : Nat))) = ((8 * (n - 1 - i) : Nat) : Int) := by omega
    have q := hR H' (Kp.refl _)
    rw [← pow_256] at q
    rw [e]
    exact q
def sp_read_number (K : PySem.W.Frag) : Sp := fun vs H Q _ => ∃ (a : Addr) (ds : List Int) (i k : Nat), vs = [.ref a, .int i, .int k] ∧ SqL K H a (ds.map V.int) ∧ ∀ H', Kp F0 H H' → Q (.int (rn ((ds.drop i).take k))) H'
theorem ok_read_number (T : Txt K mg c) : GF P w K mg base CX0 1 "read_number" (sp_read_number K) := by
  obtain ⟨f, fd, F, gm⟩ := T.f_read_number
  refine ⟨f, fd, ["data", "place", "width"], F.ok sc_read_number ?_ (fun cdv A outer s H vs Q E hr h => ?_), gm, F.kp, (F.binds (ps := ["data", "place", "width"]) fun _ _ _ _ _ _ us hl => match us, hl with | [_, _, _], _ => rfl)⟩
  · rintro vs H Q E ⟨_, _, _, _, rfl, _⟩
    rfl
  · obtain ⟨a, ds, i, n, rfl, ha, k⟩ := h
    refine ⟨_, (pss_cons (ps_set (i := 3) sc_read_number.nd rfl (Or.inl rfl) pe_int)
      (pss_cons (ps_for PassesOwn.never rfl (pi_listK rfl (pe_slice (r := rSlL K) sl_list (pv 0) (po_some (pv 1)) (po_some (pe_op op_add (pv 1) (pv 2))))) (pg_name (i := 4) sc_read_number.nd rfl (Or.inl rfl)) (pss_one (ps_set (i := 3) sc_read_number.nd rfl (Or.inl rfl) (pe_op op_add (pe_op op_mul (pv 3) pe_int) (pv 4)))))
      (pss_one (ps_ret (pv 3))))), ?_⟩
    walk_at "cx"
    walk_at "rd"
    refine x_slL ha fun l H1 hl kp hl1 => ?_
    rw [cut_mid (by omega) (by omega), show ((i : Int) + (n : Int) - (i : Int)).toNat = n by omega, Int.toNat_natCast] at hl1
    walk_at "rd"
    refine wfor Wk.list (fun j σ H' => ∃ u, σ = [some (.ref a), some (.int i), some (.int n), some (.int (rn (((ds.drop i).take n).take j))), u] ∧ H1 = H') ⟨none, rfl, rfl⟩ (fun j σ H' ⟨u, _, e⟩ => by rw [← e]; exact SqL.of hl1) ?_ ?_
    · rintro j x σ H' ex ⟨u, rfl, rfl⟩
      rw [List.getElem?_map] at ex
      cases q : ((ds.drop i).take n)[j]? with
      | none => rw [q] at ex; cases ex
      | some z =>
        rw [q] at ex
        cases ex
        walk_at "rd"
        refine ⟨some (.int z), ?_, rfl⟩
        rw [List.take_succ (l := (ds.drop i).take n), q]
        show _ = [some (V.ref a), some (V.int i), some (V.int n), some (V.int (rn (((ds.drop i).take n).take j ++ [z]))), some (V.int z)]
        rw [rn_app]; rfl
    · rintro σ H' ⟨u, rfl, rfl⟩
      walk_at "rd"
      rw [List.length_map, List.take_length]
      exact k H1 kp
def sp_write_point (K : PySem.W.Frag) : Sp := fun vs H Q _ => ∃ (a : Addr) (ps : List Int), vs = [.ref a] ∧ SqT K H a (ps.map V.int) ∧ ps.length ≤ 1000 ∧ ∀ p H', H p = none → Kp F0 H H' → H' p = some (.lst ((wp ps).map V.int)) → Q (.ref p) H'
theorem ok_write_point (T : Txt K mg c) : GF P w K mg base CX0 2 "write_point" (sp_write_point K) := by
  obtain ⟨f, fd, F, gm⟩ := T.f_write_point
  obtain ⟨_, mg_OFFSET⟩ := T.m_OFFSET
  refine ⟨f, fd, ["point"], F.ok sc_write_point ?_ (fun cdv A outer s H vs Q E hr h => ?_), gm, F.kp, (F.binds (ps := ["point"]) fun _ _ _ _ _ _ us hl => match us, hl with | [_], _ => rfl)⟩
  · rintro vs H Q E ⟨_, _, rfl, _⟩
    rfl
  · obtain ⟨a, ps, rfl, ha, hz, k⟩ := h
    refine ⟨_, (pss_cons (ps_set (i := 1) sc_write_point.nd rfl (Or.inl rfl) (pe_lst pa_nil))
      (pss_cons (ps_for PassesOwn.never rfl (pi_tupK rfl (pv 0)) (pg_name (i := 2) sc_write_point.nd rfl (Or.inl rfl)) (pss_one (ps_expr (pe_kBM rfl (pe_bm PySem.F.plainAttrs_list PySem.F.slot_list_extend PySem.F.type_list_extend mt_extend (pv 1) (pa_cons (pe_g (ok_write_number T) (hr.mono (by decide)) pass0S (pa_cons pe_int (pa_cons (pe_op op_add (pv 2) (pe_glob (v := .int 32768) rfl mg_OFFSET ⟨_, rfl⟩)) pa_nil))) pa_nil))))))
      (pss_one (ps_ret (pv 1))))), ?_⟩
    walk_at "cx"
    walk_at "rd"
    refine x_newL fun d H1 hd kp hd1 => ?_
    walk_at "rd"
    refine x_iT1 (kp.sqT ha) ?_
    refine wfor Wk.tup (fun j σ H' => ∃ u, σ = [some (.ref a), some (.ref d), u] ∧ H' d = some (.lst ((wp (ps.take j)).map V.int)) ∧ Kp F0 H H') ⟨none, rfl, hd1, kp⟩ (fun j σ H' ⟨u, _, _, kk⟩ => kk.sqT ha) ?_ ?_
    · rintro j x σ H' ex ⟨u, rfl, hd2, kk⟩
      rw [List.getElem?_map] at ex
      cases q : ps[j]? with
      | none => rw [q] at ex; cases ex
      | some z =>
        rw [q] at ex
        cases ex
        walk_at "rd"
        refine ⟨2, z + 32768, rfl, by decide, fun b H2 hb kp2 hb2 => ?_⟩
        have hd3 := kp2.get hd2 id
        walk_at "rd"
        have hl : (wp (ps.take j)).length ≤ 2000 := by rw [wp_len, List.length_take]; omega
        refine x_ext hd3 hb2 (by rw [List.length_map, List.length_map, wn_len]; omega) fun H3 h3 k3 => ?_
        refine ⟨some (.int z), rfl, ?_, (kk.trans kp2 fun _ z => z.elim).trans k3 fun b e => .inr (by rw [e]; exact hd)⟩
        rw [h3, ← List.map_append, List.take_succ, q, ← wp_app]; rfl
    · rintro σ H' ⟨u, rfl, hd2, kk⟩
      walk_at "rd"
      rw [List.length_map, List.take_length] at hd2
      exact k d H' hd kk hd2
def sp_read_point (K : PySem.W.Frag) : Sp := fun vs H Q _ => ∃ (a : Addr) (ds : List Int) (i d : Nat), vs = [.ref a, .int i, .int d] ∧ d ≤ 1000 ∧ SqL K H a (ds.map V.int) ∧ ∀ p H', H p = none → Kp F0 H H' → H' p = some (.tup ((rp ds i d).map V.int)) → Q (.ref p) H'
theorem ok_read_point (T : Txt K mg c) : GF P w K mg base CX0 2 "read_point" (sp_read_point K) := by
  obtain ⟨f, fd, F, gm⟩ := T.f_read_point
  obtain ⟨_, mg_OFFSET⟩ := T.m_OFFSET
  refine ⟨f, fd, ["data", "place", "dimensions"], F.ok sc_read_point ?_ (fun cdv A outer s H vs Q E hr h => ?_), gm, F.kp, (F.binds (ps := ["data", "place", "dimensions"]) fun _ _ _ _ _ _ us hl => match us, hl with | [_, _, _], _ => rfl)⟩
  · rintro vs H Q E ⟨_, _, _, _, rfl, _⟩
    rfl
  · obtain ⟨a, ds, i, d, rfl, hd, ha, k⟩ := h
    refine ⟨_, (pss_one (ps_ret (pe_callTy (r := rTupQ K) c_tuple (by rfl) T.z_tuple (by decide +kernel) (pa_cons (pe_lc (own := [("k", 3)]) (g := (gName 3)) (tt := tYes) rfl sc_read_point.nd (pi_range1 (by rfl) T.z_range (pa_cons (pv 2) pa_nil)) (blkOk_by (N := ["data", "place", "dimensions", "k"]) (sc := defScope s_read_point) (by decide +kernel)) (fun _ _ _ _ _ => (pg_name (i := 3) sc_read_point.nd rfl (Or.inl rfl))) (fun _ _ _ _ _ => pts_nil) (fun _ _ _ _ _ => (pe_op op_sub (pe_g (ok_read_number T) (hr.mono (by decide)) pass0S (pa_cons (pv 0) (pa_cons (pe_op op_add (pv 1) (pe_op op_mul pe_int (pv 3))) (pa_cons pe_int pa_nil)))) (pe_glob (v := .int 32768) rfl mg_OFFSET ⟨_, rfl⟩)))) pa_nil)))), ?_⟩
    walk_at "cx"
    walk_at "rd"
    have hn : ∀ {H' : Hp}, Kp F0 H H' → SqL K H' a (ds.map V.int) := fun kp => kp.sqL ha id
    refine wlcP (ys := (rp ds i d).map V.int) Wk.rng (by unfold rp; simp [rgl_len]) (by rw [rgl_len]; omega) (fun _ _ => trivial) (fun j x y H' R ex ey kp hR => ?_) (fun D H1 hD kp hDl => ?_)
    · obtain ⟨hj, rfl⟩ := rgl_at ex
      have hj' : j < d := hj
      unfold rp at ey
      rw [List.getElem?_map, List.getElem?_map, List.getElem?_range hj'] at ey
      cases ey
      walk_at "rd"
      refine ⟨rfl, ?_⟩
      walk_at "rd"
      refine ⟨a, ds, i + 2 * j, 2, by simp, hn kp, fun H2 k2 => ?_⟩
      walk_at "rd"
      exact hR H2 k2
    · walk_at "rd"
      refine x_tupL (SqL.of hDl) fun l H2 hl kp2 hp => ?_
      exact k l H2 (kp.free hl id) (kp.trans kp2 fun _ z => z.elim) hp
end
section
variable {P : Program} {w : World} {K : PySem.W.Frag} {mg : Str → Option Value} {base : Heap} {c : Cl}
def sp_read_groups (K : PySem.W.Frag) : Sp := fun vs H Q _ => ∃ a ds gs more j, vs = [.ref a] ∧ SqL K H a (ds.map V.int) ∧ ds = gs.flatMap wg ++ (wg more).take j ∧ j < (wg more).length ∧ (∀ g ∈ gs, Good g) ∧ Good more ∧ gs.length ≤ 100000 ∧
  ∀ r H', H r = none → Kp F0 H H' → GsAt (fun b => H b = none) H' r gs → Q (.ref r) H'
theorem ok_read_groups (T : Txt K mg c) : GF P w K mg base CX0 2 "read_groups" (sp_read_groups K) := by
  obtain ⟨f, fd, F, gm⟩ := T.f_read_groups
  obtain ⟨_, mg_NUMBER_SIZE⟩ := T.m_NUMBER_SIZE
  obtain ⟨_, mg_PAGE_SIZE⟩ := T.m_PAGE_SIZE
  refine ⟨f, fd, ["data"], F.ok sc_read_groups ?_ (fun cdv A outer s H vs Q E hr h => ?_), gm, F.kp, (F.binds (ps := ["data"]) fun _ _ _ _ _ _ us hl => match us, hl with | [_], _ => rfl)⟩
  · rintro vs H Q E ⟨_, _, _, _, _, rfl, _⟩
    rfl
  · obtain ⟨a, ds, gs, more, j, rfl, ha, eds, hj, hgs, hm, lgs, k⟩ := h
    refine ⟨_, (pss_cons (ps_set (i := 1) sc_read_groups.nd rfl (Or.inl rfl) (pe_lst pa_nil))
      (pss_cons (ps_set (i := 2) sc_read_groups.nd rfl (Or.inl rfl) pe_int)
      (pss_cons (ps_while PassesOwn.never (pt_cmpR op_le (pe_op op_add (pv 2) (pe_glob (v := .int 4) rfl mg_NUMBER_SIZE ⟨_, rfl⟩)) (pe_callB (r := rLenQ K) c_len (by rfl) T.z_len PySem.boot_len (pa_cons (pv 0) pa_nil)) (nomark _)) (pss_cons (ps_set (i := 3) sc_read_groups.nd rfl (Or.inl rfl) (pe_g (ok_read_number T) (hr.mono (by decide)) pass0S (pa_cons (pv 0) (pa_cons (pv 2) (pa_cons (pe_glob (v := .int 4) rfl mg_NUMBER_SIZE ⟨_, rfl⟩) pa_nil)))))
      (pss_cons (ps_aug (i := 2) sc_read_groups.nd rfl (Or.inl rfl) (pe_glob (v := .int 4) rfl mg_NUMBER_SIZE ⟨_, rfl⟩) ip_add)
      (pss_cons (ps_if (pt_cmpR op_gt (pe_op op_add (pv 2) (pe_op op_mul (pv 3) (pe_op op_add (pe_glob (v := .int 4) rfl mg_NUMBER_SIZE ⟨_, rfl⟩) (pe_glob (v := .int 256) rfl mg_PAGE_SIZE ⟨_, rfl⟩)))) (pe_callB (r := rLenQ K) c_len (by rfl) T.z_len PySem.boot_len (pa_cons (pv 0) pa_nil)) (nomark _)) (pss_one (ps_ret (pv 1))) pss_nil)
      (pss_cons (ps_set (i := 4) sc_read_groups.nd rfl (Or.inl rfl) (pe_lst pa_nil))
      (pss_cons (ps_for PassesOwn.never rfl (pi_range1 (by rfl) T.z_range (pa_cons (pv 3) pa_nil)) (pg_name (i := 5) sc_read_groups.nd rfl (Or.inl rfl)) (pss_cons (ps_set (i := 6) sc_read_groups.nd rfl (Or.inl rfl) (pe_op op_add (pv 2) (pe_glob (v := .int 4) rfl mg_NUMBER_SIZE ⟨_, rfl⟩)))
      (pss_cons (ps_expr (pe_kBM rfl (pe_bm PySem.F.plainAttrs_list PySem.F.slot_list_append PySem.F.type_list_append mt_append (pv 4) (pa_cons (pe_tup (pa_cons (pe_g (ok_read_number T) (hr.mono (by decide)) pass0S (pa_cons (pv 0) (pa_cons (pv 2) (pa_cons (pe_glob (v := .int 4) rfl mg_NUMBER_SIZE ⟨_, rfl⟩) pa_nil)))) (pa_cons (pe_slice (r := rSlL K) sl_list (pv 0) (po_some (pv 6)) (po_some (pe_op op_add (pv 6) (pe_glob (v := .int 256) rfl mg_PAGE_SIZE ⟨_, rfl⟩)))) pa_nil))) pa_nil))))
      (pss_one (ps_set (i := 2) sc_read_groups.nd rfl (Or.inl rfl) (pe_op op_add (pv 6) (pe_glob (v := .int 256) rfl mg_PAGE_SIZE ⟨_, rfl⟩)))))))
      (pss_one (ps_expr (pe_kBM rfl (pe_bm PySem.F.plainAttrs_list PySem.F.slot_list_append PySem.F.type_list_append mt_append (pv 1) (pa_cons (pv 4) pa_nil)))))))))))
      (pss_one (ps_ret (pv 1)))))), ?_⟩
    walk_at "cx"
    walk_at "rd"
    refine x_newL fun r H1 hr1 k1 e1 => ?_
    walk_at "rd"
    refine x_wh (fun m σ H' => ∃ i vs u3 u4 u5 u6, m = gs.length - i ∧ i ≤ gs.length ∧ σ = [some (.ref a), some (.ref r), some (.int ((gs.take i).flatMap wg).length), u3, u4, u5, u6] ∧ H' r = some (.lst vs) ∧ vs.length = i ∧ Paired (GAt (fun b => H b = none ∧ b ≠ r) H') vs (gs.take i) ∧ Kp F0 H H')
      ⟨_, 0, [], none, none, none, none, rfl, Nat.zero_le _, rfl, e1, rfl, .nil, k1⟩ ?_
    rintro m σ H2 ⟨i, vs, u3, u4, u5, u6, rfl, hi, rfl, er, lvs, hv, kk⟩
    have fin : ∀ H3, Kp F0 H2 H3 → i = gs.length → Q (.ref r) H3 := fun H3 k3 e => by
      refine k r H3 hr1 (kk.trans k3 fun _ z => z.elim) ⟨vs, k3.get er id, hr1, ?_⟩
      rw [e, List.take_length] at hv
      exact hv.mono fun _ _ x => (x.own fun b _ o => o.1).kp k3 fun _ _ _ _ z => z
    generalize hA : (gs.take i).flatMap wg = A
    have ha2 := kk.sqL ha id
    by_cases hlt : i < gs.length
    · obtain ⟨g, eg⟩ : ∃ g, gs[i]? = some g := ⟨_, List.getElem?_eq_getElem hlt⟩
      have gg := hgs g (List.mem_of_getElem? eg)
      generalize hT : (gs.drop (i + 1)).flatMap wg ++ (wg more).take j = Tl
      have ed : ds = A ++ (wg g ++ Tl) := by rw [eds, flat_at _ eg, hA, hT]
      have ld : ds.length = A.length + (4 + 260 * g.length) + Tl.length := by rw [ed, List.length_append, List.length_append, wg_len gg]; omega
      have := gg.n
      walk_at "rd"
      rw [List.length_map]
      refine if_dtt (by omega) ?_
      refine ⟨_, fun _ _ z => z, ?_⟩
      walk_at "rd"
      refine ⟨a, ds, A.length, 4, rfl, ha2, fun H3 k3 => ?_⟩
      rw [rd_count gg ed]
      have ha3 := k3.sqL ha2 id
      have er3 := k3.get er id
      walk_at "rd"
      refine x_augv rfl ?_
      walk_at "rd"
      refine x_ipI ?_
      walk_at "rd"
      rw [List.length_map]
      refine if_dff (by omega) ?_
      walk_at "rd"
      refine x_newL fun p H4 hp4 k4 e4 => ?_
      have ha4 := k4.sqL ha3 id
      have er4 := k4.get er3 id
      have nrp : r ≠ p := ne_of_none er3 hp4
      walk_at "rd"
      refine wfor Wk.rng (fun t σ H' => ∃ ws u5 u6, σ = [some (.ref a), some (.ref r), some (.int ((A.length + 4 + 260 * t : Nat) : Int)), some (.int g.length), some (.ref p), u5, u6] ∧ H' p = some (.lst ws) ∧ ws.length = t ∧ Paired (PAt (fun b => (H b = none ∧ b ≠ r) ∧ b ≠ p) H') ws (g.take t) ∧ Kp F0 H3 H')
        ⟨[], u5, u6, by simp, e4, rfl, .nil, k4⟩ (fun _ _ _ _ => trivial) ?_ ?_
      · rintro t x σ H5 ex ⟨ws, u5, u6, rfl, ep, lt, hw, kk5⟩
        obtain ⟨ht, rfl⟩ := rgl_at ex
        have ht' : t < g.length := by have : t < (g.length : Int).toNat := ht; omega
        obtain ⟨q, eq⟩ : ∃ q, g[t]? = some q := ⟨_, List.getElem?_eq_getElem ht'⟩
        have rc := rd_chunk gg ed eq
        have ha5 := kk5.sqL ha3 id
        walk_at "rd"
        refine ⟨a, ds, A.length + 4 + 260 * t, 4, rfl, ha5, fun H6 k6 => ?_⟩
        rw [rc.1]
        walk_at "rd"
        refine x_slL (k6.sqL ha5 id) fun l H7 hl k7 e7 => ?_
        rw [cut_mid (by omega) (by omega), show ((((A.length + 4 + 260 * t : Nat) : Int) + 4).toNat) = A.length + 4 + 260 * t + 4 by omega, show ((((A.length + 4 + 260 * t : Nat) : Int) + 4 + 256 - (((A.length + 4 + 260 * t : Nat) : Int) + 4)).toNat) = 256 by omega, rc.2] at e7
        walk_at "rd"
        refine x_newT fun tp H8 htp k8 e8 => ?_
        have k58 : Kp F0 H5 H8 := (k6.trans k7 fun _ z => z.elim).trans k8 fun _ z => z.elim
        have ep8 := k58.get ep id
        walk_at "rd"
        refine x_app ep8 (by have := gg.n; omega) fun H9 e9 k9 => ?_
        walk_at "rd"
        have k35 : Kp F0 H3 H7 := (kk5.trans k6 fun _ z => z.elim).trans k7 fun _ z => z.elim
        have hl3 : H3 l = none := kk5.free (k6.free hl id) id
        have er5 := (kk5.trans k6 fun _ z => z.elim).get er3 id
        have ep6 := k6.get ep id
        have nlr : l ≠ r := (ne_of_none er5 hl).symm
        have nlp : l ≠ p := (ne_of_none ep6 hl).symm
        refine ⟨ws ++ [.ref tp], some (.int (0 + (t : Int))), some (.int (((A.length + 4 + 260 * t : Nat) : Int) + 4)), ?_, e9, by rw [List.length_append, lt]; rfl, ?_, (kk5.trans k58 fun _ z => z.elim).trans k9 fun x z => .inr (by rw [z]; exact hp4)⟩
        · rw [show (((A.length + 4 + 260 * (t + 1) : Nat)) : Int) = ((A.length + 4 + 260 * t : Nat) : Int) + 4 + 256 by omega]; rfl
        · rw [List.take_succ, eq]
          refine Paired.snoc (hw.mono fun _ _ x => (x.kp k58 fun _ _ _ _ z => z).kp k9 fun b _ _ o z => o.2 z) ⟨tp, l, rfl, k9.tup e8, k9.get (k8.get e7 id) nlp, ⟨kk.free (k3.free hl3 id) id, nlr⟩, nlp⟩
      · rintro σ H5 ⟨ws, u5, u6, rfl, ep, lt, hw, kk5⟩
        have er5 := kk5.get er3 id
        have hlen : (rgl 0 (g.length : Int).toNat).length = g.length := by rw [rgl_len]; omega
        rw [hlen] at lt hw
        rw [hlen]
        rw [List.take_length] at hw
        walk_at "rd"
        refine x_app er5 (by omega) fun H6 e6 k6 => ?_
        have k26 : Kp (F1 r) H2 H6 := ((k3.mono fun _ z => z.elim).trans kk5 fun _ z => z.elim).trans k6 fun _ z => .inl z
        have hpH : H p = none := kk.free (k3.free hp4 id) id
        refine ⟨gs.length - (i + 1), by omega, i + 1, vs ++ [.ref p], some (.int g.length), some (.ref p), u5, u6, rfl, hlt, ?_, e6, by rw [List.length_append, lvs]; rfl, ?_, kk.trans k26 fun x z => .inr (by rw [z]; exact hr1)⟩
        · rw [takes eg, hA, List.length_append, wg_len gg, show ((A.length + (4 + 260 * g.length) : Nat) : Int) = ((A.length + 4 + 260 * g.length : Nat) : Int) by omega]
        · rw [List.take_succ, eg]
          refine Paired.snoc (hv.mono fun _ _ x => x.kp k26 fun b _ _ o z => o.2 z) ⟨p, ws, rfl, k6.get ep nrp.symm, ⟨hpH, nrp.symm⟩, hw.mono fun _ _ x => (x.own fun b _ o => o.1).kp k6 fun b _ _ o z => o.2 z⟩
    · have ei : i = gs.length := by omega
      have eA : gs.flatMap wg = A := by rw [← hA, ei, List.take_length]
      have ed : ds = A ++ (wg more).take j := by rw [eds, eA]
      have ld : ds.length = A.length + j := by rw [ed, List.length_append, List.length_take]; omega
      have lm := wg_len hm
      walk_at "rd"
      rw [List.length_map]
      by_cases h4 : 4 ≤ j
      · refine if_dtt (by omega) ?_
        refine ⟨_, fun _ _ z => z, ?_⟩
        walk_at "rd"
        refine ⟨a, ds, A.length, 4, rfl, ha2, fun H3 k3 => ?_⟩
        rw [rd_part hm ed h4]
        have ha3 := k3.sqL ha2 id
        walk_at "rd"
        refine x_augv rfl ?_
        walk_at "rd"
        refine x_ipI ?_
        walk_at "rd"
        rw [List.length_map]
        refine if_dtt (by omega) ?_
        walk_at "rd"
        exact fin H3 k3 ei
      · refine if_dff (by omega) ?_
        walk_at "rd"
        exact fin H2 (Kp.refl _) ei
end
section
variable {P : Program} {w : World} {K : PySem.W.Frag} {mg : Str → Option Value} {base : Heap} {c : Cl}
def sp_distance (K : PySem.W.Frag) : Sp := fun vs H Q _ => ∃ (m : Str) (pa pb : Addr) (a b : List Int), vs = [.str m, .ref pa, .ref pb] ∧ SqT K H pa (a.map V.int) ∧ SqT K H pb (b.map V.int) ∧ a.length = b.length ∧ 0 < a.length ∧ a.length ≤ 1000 ∧
  ∀ H', Kp F0 H H' → Q (.int (dist m a b)) H'
theorem diffs_get {a b : List Int} {i : Nat} (h : i < a.length) (e : a.length = b.length) : ((diffs a b).map V.int)[i]? = some (.int (gap (a.getD i 0) (b.getD i 0))) := by
  rw [List.getElem?_map, diffs_at (x := a.getD i 0) (y := b.getD i 0)]
  · rfl
  · rw [List.getD_eq_getElem?_getD, List.getElem?_eq_getElem h]; rfl
  · rw [List.getD_eq_getElem?_getD, List.getElem?_eq_getElem (by omega)]; rfl
theorem ok_distance (T : Txt K mg c) : GF P w K mg base CX0 1 "distance" (sp_distance K) := by
  obtain ⟨f, fd, F, gm⟩ := T.f_distance
  refine ⟨f, fd, ["metric", "a", "b"], F.ok sc_distance ?_ (fun cdv A outer s H vs Q E hr h => ?_), gm, F.kp, (F.binds (ps := ["metric", "a", "b"]) fun _ _ _ _ _ _ us hl => match us, hl with | [_, _, _], _ => rfl)⟩
  · rintro vs H Q E ⟨_, _, _, _, _, rfl, _⟩
    rfl
  · obtain ⟨m, pa, pb, a, b, rfl, ha, hb, hl, h0, h1, k⟩ := h
    refine ⟨_, (pss_cons (ps_setLc (i := 3) (own := [("k", 4)]) (g := (gName 4)) (tt := tYes) rfl sc_distance.nd rfl rfl (sw_true rfl rfl rfl (by decide +kernel)) (pi_range1 (by rfl) T.z_range (pa_cons (pe_callB (r := rLenQ K) c_len (by rfl) T.z_len PySem.boot_len (pa_cons (pv 1) pa_nil)) pa_nil)) (blkOk_by (N := ["metric", "a", "b", "differences", "k", "difference"]) (sc := defScope s_distance) (by decide +kernel)) (fun _ _ _ _ _ => (pg_name (i := 4) sc_distance.nd rfl (Or.inl rfl))) (fun _ _ _ _ _ => pts_nil) (fun _ _ _ _ _ => (pe_callB c_abs (by rfl) T.z_abs (by decide +kernel) (pa_cons (pe_op op_sub (pe_ix (r := rIxT K) ix_tup (pv 1) (pv 4) (fun _ _ => rfl)) (pe_ix (r := rIxT K) ix_tup (pv 2) (pv 4) (fun _ _ => rfl))) pa_nil))))
      (pss_cons (ps_if (pt_cmpR op_eq (pv 0) pe_str (nomark _)) (pss_one (ps_ret (pe_callB (r := rSum K) (cr_sum rfl) (by rfl) T.z_sum (by decide +kernel) (pa_cons (pv 3) pa_nil)))) pss_nil)
      (pss_cons (ps_if (pt_cmpR op_eq (pv 0) pe_str (nomark _)) (pss_one (ps_ret (pe_callB (r := rMax K) (cr_max rfl) (by rfl) T.z_max (by decide +kernel) (pa_cons (pv 3) pa_nil)))) pss_nil)
      (pss_one (ps_ret (pe_callB (r := rSum K) (cr_sum rfl) (by rfl) T.z_sum (by decide +kernel) (pa_cons (pe_lc (own := [("difference", 5)]) (g := (gName 5)) (tt := tYes) rfl sc_distance.nd (pi_listK rfl (pv 3)) (blkOk_by (N := ["metric", "a", "b", "differences", "k", "difference"]) (sc := defScope s_distance) (by decide +kernel)) (fun _ _ _ _ _ => (pg_name (i := 5) sc_distance.nd rfl (Or.inl rfl))) (fun _ _ _ _ _ => pts_nil) (fun _ _ _ _ _ => (pe_callTy c_int (by rfl) T.z_int (by decide +kernel) (pa_cons (pe_cmpR op_gt (pv 5) pe_int (nomark _)) pa_nil)))) pa_nil))))))), ?_⟩
    walk_at "cx"
    walk_at "rd"
    rw [List.length_map]
    walk_at "rd"
    refine wlcP (ys := (diffs a b).map V.int) Wk.rng (by rw [List.length_map, rgl_len, diffs_len hl]; rfl) (by rw [rgl_len]; omega) (fun _ _ => trivial) (fun i x y H' R ex ey kp hR => ?_) (fun D H1 hD kp hDl => ?_)
    · obtain ⟨hi, rfl⟩ := rgl_at ex
      have hi' : i < a.length := hi
      rw [diffs_get hi' hl] at ey
      cases ey
      walk_at "rd"
      refine ⟨rfl, ?_⟩
      walk_at "rd"
      refine x_ixT (kp.sqT ha) (atI_at i (by omega) (at_of_lt hi')) ?_
      walk_at "rd"
      refine x_ixT (kp.sqT hb) (atI_at i (by omega) (at_of_lt (by omega))) ?_
      walk_at "rd"
      exact hR H' (Kp.refl _)
    · walk_at "rd"
      refine ite_dec (fun e => ?_) (fun e => ?_)
      · walk_at "rd"
        refine x_sum (SqL.of hDl) ?_
        have q := k H1 kp
        unfold dist at q
        rw [if_pos e] at q
        exact q
      · walk_at "rd"
        refine ite_dec (fun e2 => ?_) (fun e2 => ?_)
        · walk_at "rd"
          refine x_max (SqL.of hDl) (by rw [diffs_len hl]; exact h0) fun z hz hle => ?_
          have q := k H1 kp
          unfold dist at q
          rw [if_neg e, if_pos e2, ← mx_uniq diffs_nn hz hle] at q
          exact q
        · walk_at "rd"
          refine wlcP (ys := ((diffs a b).map pos1).map V.int) Wk.list (by simp) (by simp [diffs_len hl]; omega) (fun H' s => SqL.of (s.get hDl id)) (fun i x y H' R ex ey kp' hR => ?_) (fun D2 H2 hD2 kp2 hDl2 => ?_)
          · have e1 : ∃ z, (diffs a b)[i]? = some z := by
              rw [List.getElem?_map] at ex
              cases q : (diffs a b)[i]? with
              | none => rw [q] at ex; cases ex
              | some z => exact ⟨z, rfl⟩
            obtain ⟨z, e1⟩ := e1
            rw [List.getElem?_map, e1] at ex
            rw [List.getElem?_map, List.getElem?_map, e1] at ey
            cases ex
            cases ey
            walk_at "rd"
            refine ⟨rfl, ?_⟩
            walk_at "rd"
            have hz := hR H' (Kp.refl _)
            unfold pos1 at hz
            by_cases q : 0 < z
            · rw [if_pos q] at hz; rw [decide_eq_true q]; exact hz
            · rw [if_neg q] at hz; rw [decide_eq_false q]; exact hz
          · refine x_sum (SqL.of hDl2) ?_
            have q := k H2 (kp.trans kp2 fun _ z => z.elim)
            unfold dist at q
            rw [if_neg e, if_neg e2] at q
            exact q
end
/-! ### the device -/
structure DevS where
  pages : List (Int × List Int)
  writes : List (Int × List Int)
  log : List Int
  steps : List (Option Int)
  done : Int
  most : Option Int
def oV : Option Int → V
  | none => .non
  | some i => .int i
def aget (l : List (Int × List Int)) (n : Int) : Option (List Int) := (l.find? fun q => decide (q.1 = n)).map (·.2)
def aput (l : List (Int × List Int)) (n : Int) (v : List Int) : List (Int × List Int) :=
  if (l.any fun q => decide (q.1 = n)) = true then l.map (fun q => if q.1 = n then (q.1, v) else q) else l ++ [(n, v)]
def zeros : List Int := List.replicate 256 0
/-- a page's durable content -/
def dpg (d : DevS) (n : Int) : List Int := (aget d.pages n).getD zeros
/-- a page's content behind all pending writes -/
def cpg (d : DevS) (n : Int) : List Int := match d.writes.reverse.find? fun q => decide (q.1 = n) with
  | some q => q.2
  | none => dpg d n
def lstep (l : List Int) : Option Int → List Int
  | none => []
  | some b => l ++ [b]
def clog (d : DevS) : List Int := d.steps.foldl lstep d.log
def can (d : DevS) : Bool := match d.most with
  | none => true
  | some m => decide (d.done < m)
/-- one step of power, then f -/
def pw (d : DevS) (f : DevS → DevS) : DevS × Bool := if can d = true then (f { d with done := d.done + 1 }, true) else (d, false)
def dWrite (n : Int) (ds : List Int) (d : DevS) : DevS × Bool := pw d fun d => { d with writes := d.writes ++ [(n, ds)] }
def dSyncP (d : DevS) : DevS × Bool := pw d fun d => { d with pages := d.writes.foldl (fun l q => aput l q.1 q.2) d.pages, writes := [] }
def dByte (b : Option Int) (d : DevS) : DevS × Bool := pw d fun d => { d with steps := d.steps ++ [b] }
def dApp : List Int → DevS → DevS × Bool
  | [], d => (d, true)
  | b :: r, d => if (dByte (some b) d).2 = true then dApp r (dByte (some b) d).1 else (d, false)
def dSyncL (d : DevS) : DevS × Bool := pw d fun d => { d with log := clog d, steps := [] }
def dLimit (s : Option Int) (d : DevS) : DevS := { d with most := s.map fun s => d.done + s }
def dFate (pages : List (Int × List Int)) (q : (Int × List Int) × Int) : List (Int × List Int) :=
  if q.2 = 1 then aput pages q.1.1 q.1.2 else if q.2 = 2 then aput pages q.1.1 (q.1.2.take 128 ++ ((aget pages q.1.1).getD zeros).drop 128) else pages
def dCrash (fates : List Int) (kept : Nat) (d : DevS) : DevS :=
  { pages := (d.writes.zip fates).foldl dFate d.pages, writes := [], log := (d.steps.take kept).foldl lstep d.log, steps := [], done := d.done, most := none }
/-- a list of the owned ones that never changes -/
def Im (H : Hp) (O G : Addr → Prop) (a : Addr) (ds : List Int) : Prop := H a = some (.lst (ds.map V.int)) ∧ O a ∧ ¬ G a
def RPg (H : Hp) (O G : Addr → Prop) (p : Key × V) (q : Int × List Int) : Prop := p.1 = .inl q.1 ∧ ∃ a, p.2 = .ref a ∧ Im H O G a q.2
def RWr (H : Hp) (O G : Addr → Prop) (v : V) (q : Int × List Int) : Prop := ∃ t a, v = .ref t ∧ H t = some (.tup [.int q.1, .ref a]) ∧ Im H O G a q.2
theorem Im.kp {F O G : Addr → Prop} {H H' : Hp} {a : Addr} {ds : List Int} (s : Kp F H H') (h : Im H O G a ds) (n : ∀ b, F b → G b) : Im H' O G a ds := ⟨s.get h.1 fun z => h.2.2 (n _ z), h.2⟩
theorem RPg.im {H H' : Hp} {O O' G G' : Addr → Prop} {p : Key × V} {q : Int × List Int} (f : ∀ a ds, Im H O G a ds → Im H' O' G' a ds) (h : RPg H O G p q) : RPg H' O' G' p q := by
  obtain ⟨e, a, ev, i⟩ := h
  exact ⟨e, a, ev, f _ _ i⟩
theorem RWr.im {F : Addr → Prop} {H H' : Hp} {O O' G G' : Addr → Prop} {v : V} {q : Int × List Int} (s : Kp F H H') (f : ∀ a ds, Im H O G a ds → Im H' O' G' a ds) (h : RWr H O G v q) : RWr H' O' G' v q := by
  obtain ⟨t, a, ev, ht, i⟩ := h
  exact ⟨t, a, ev, s.tup ht, f _ _ i⟩
theorem RPg.kp {F O G : Addr → Prop} {H H' : Hp} {p : Key × V} {q : Int × List Int} (s : Kp F H H') (n : ∀ b, F b → G b) (h : RPg H O G p q) : RPg H' O G p q := h.im fun _ _ i => i.kp s n
theorem RWr.kp {F O G : Addr → Prop} {H H' : Hp} {v : V} {q : Int × List Int} (s : Kp F H H') (n : ∀ b, F b → G b) (h : RWr H O G v q) : RWr H' O G v q := h.im s fun _ _ i => i.kp s n
def DevG (p a1 a2 a4 : Addr) : Addr → Prop := fun b => b = p ∨ b = a1 ∨ b = a2 ∨ b = a4
structure DevA (c : Cl) (O : Addr → Prop) (H : Hp) (p dx a1 a2 a3 a4 : Addr) (kvs : List (Key × V)) (ws : List V) (d : DevS) : Prop where
  o : H p = some (.ins c.Device dx (F_Device (.ref a1) (.ref a2) (.ref a3) (.ref a4) (.int d.done) (oV d.most)))
  pg : H a1 = some (.dK kvs)
  pr : Paired (RPg H O (DevG p a1 a2 a4)) kvs d.pages
  wr : H a2 = some (.lst ws)
  wp : Paired (RWr H O (DevG p a1 a2 a4)) ws d.writes
  lg : Im H O (DevG p a1 a2 a4) a3 d.log
  st : H a4 = some (.lst (d.steps.map oV))
  ne : a2 ≠ a4
  ow : ∀ b, DevG p a1 a2 a4 b → O b
/-- a device at p that owns O -/
def DevAt (c : Cl) (H : Hp) (p : Addr) (O : Addr → Prop) (d : DevS) : Prop := (∃ dx a1 a2 a3 a4 kvs ws, DevA c O H p dx a1 a2 a3 a4 kvs ws d) ∧ ∀ b, O b → ∃ o, H b = some o
/-- what was owned or is new, and stands -/
def nO (O : Addr → Prop) (H H' : Hp) : Addr → Prop := fun x => (O x ∨ H x = none) ∧ ∃ o, H' x = some o
/-- a state with its objects told goes through a step that leaves them -/
theorem DevA.im {c : Cl} {F O O' : Addr → Prop} {H H' : Hp} {p dx a1 a2 a3 a4 : Addr} {kvs : List (Key × V)} {ws : List V} {d : DevS} (s : Kp F H H') (h : DevA c O H p dx a1 a2 a3 a4 kvs ws d) (n : ∀ b, F b → ¬ DevG p a1 a2 a4 b)
    (f : ∀ a ds, Im H O (DevG p a1 a2 a4) a ds → Im H' O' (DevG p a1 a2 a4) a ds) (g : ∀ b, DevG p a1 a2 a4 b → O' b) : DevA c O' H' p dx a1 a2 a3 a4 kvs ws d where
  o := s.get h.o fun z => n _ z (.inl rfl)
  pg := s.get h.pg fun z => n _ z (.inr (.inl rfl))
  pr := Paired.mono (fun _ _ r => r.im f) h.pr
  wr := s.get h.wr fun z => n _ z (.inr (.inr (.inl rfl)))
  wp := Paired.mono (fun _ _ r => r.im s f) h.wp
  lg := f _ _ h.lg
  st := s.get h.st fun z => n _ z (.inr (.inr (.inr rfl)))
  ne := h.ne
  ow := g
theorem DevA.same {c : Cl} {O : Addr → Prop} {H H' : Hp} {p dx a1 a2 a3 a4 : Addr} {kvs : List (Key × V)} {ws : List V} {d : DevS} (s : Kp F0 H H') (h : DevA c O H p dx a1 a2 a3 a4 kvs ws d) : DevA c O H' p dx a1 a2 a3 a4 kvs ws d := h.im s (fun _ z => z.elim) (fun _ _ i => i.kp s fun _ z => z.elim) h.ow
theorem DevA.own {c : Cl} {O O' : Addr → Prop} {H : Hp} {p dx a1 a2 a3 a4 : Addr} {kvs : List (Key × V)} {ws : List V} {d : DevS} (h : DevA c O H p dx a1 a2 a3 a4 kvs ws d) (n : ∀ b, O b → O' b) : DevA c O' H p dx a1 a2 a3 a4 kvs ws d :=
  h.im (Kp.refl (F := F0) _) (fun _ z => z.elim) (fun _ _ i => ⟨i.1, n _ i.2.1, i.2.2⟩) fun b z => n _ (h.ow b z)
theorem DevAt.off {c : Cl} {F O : Addr → Prop} {H H' : Hp} {p : Addr} {d : DevS} (s : Kp F H H') (h : DevAt c H p O d) (n : ∀ b, F b → ¬ O b) : DevAt c H' p O d := by
  obtain ⟨⟨dx, a1, a2, a3, a4, kvs, ws, D⟩, t⟩ := h
  refine ⟨⟨dx, a1, a2, a3, a4, kvs, ws, D.im s (fun b z g => n b z (D.ow b g)) (fun a ds i => ⟨s.get i.1 fun z => n _ z i.2.1, i.2⟩) D.ow⟩, fun b z => ?_⟩
  obtain ⟨o, ho⟩ := t b z
  exact ⟨o, s.get ho fun y => n b y z⟩
theorem DevAt.same {c : Cl} {H H' : Hp} {p : Addr} {O : Addr → Prop} {d : DevS} (s : Kp F0 H H') (h : DevAt c H p O d) : DevAt c H' p O d := h.off s fun _ z => z.elim
theorem DevAt.fresh {c : Cl} {H : Hp} {p b : Addr} {O : Addr → Prop} {d : DevS} (h : DevAt c H p O d) (hb : H b = none) : ¬ O b := fun z => by
  obtain ⟨o, ho⟩ := h.2 b z
  rw [hb] at ho; cases ho
section
variable {c : Cl} {O : Addr → Prop} {H : Hp} {p dx a1 a2 a3 a4 : Addr} {kvs : List (Key × V)} {ws : List V} {d : DevS}
theorem DevA.n12 (h : DevA c O H p dx a1 a2 a3 a4 kvs ws d) : a1 ≠ a2 := ne_of h.pg h.wr (by intro z; cases z)
theorem DevA.n14 (h : DevA c O H p dx a1 a2 a3 a4 kvs ws d) : a1 ≠ a4 := ne_of h.pg h.st (by intro z; cases z)
theorem DevA.np1 (h : DevA c O H p dx a1 a2 a3 a4 kvs ws d) : p ≠ a1 := ne_of h.o h.pg (by intro z; cases z)
theorem DevA.np2 (h : DevA c O H p dx a1 a2 a3 a4 kvs ws d) : p ≠ a2 := ne_of h.o h.wr (by intro z; cases z)
theorem DevA.np4 (h : DevA c O H p dx a1 a2 a3 a4 kvs ws d) : p ≠ a4 := ne_of h.o h.st (by intro z; cases z)
end
theorem DevAt.opn {c : Cl} {H : Hp} {p : Addr} {O0 : Addr → Prop} {d : DevS} (h : DevAt c H p O0 d) : ∃ (O : Addr → Prop) (dx a1 a2 a3 a4 : Addr) (kvs : List (Key × V)) (ws : List V),
    O = (fun x => O0 x ∨ H x = none) ∧ DevA c O H p dx a1 a2 a3 a4 kvs ws d ∧ ∀ b, DevG p a1 a2 a4 b → O0 b := by
  obtain ⟨⟨dx, a1, a2, a3, a4, kvs, ws, D⟩, _⟩ := h
  exact ⟨_, dx, a1, a2, a3, a4, kvs, ws, rfl, D.own fun _ z => .inl z, D.ow⟩
theorem DevA.clo {c : Cl} {O O0 : Addr → Prop} {H H' : Hp} {p dx a1 a2 a3 a4 : Addr} {kvs : List (Key × V)} {ws : List V} {d : DevS} (D : DevA c O H' p dx a1 a2 a3 a4 kvs ws d) (e : O = fun x => O0 x ∨ H x = none) : DevAt c H' p (nO O0 H H') d := by
  subst e
  refine ⟨⟨dx, a1, a2, a3, a4, kvs, ws, D.im (Kp.refl (F := F0) _) (fun _ z => z.elim) (fun a ds i => ⟨i.1, ⟨i.2.1, _, i.1⟩, i.2.2⟩) fun b z => ⟨D.ow b z, ?_⟩⟩, fun b z => z.2⟩
  rcases z with rfl | rfl | rfl | rfl
  · exact ⟨_, D.o⟩
  · exact ⟨_, D.pg⟩
  · exact ⟨_, D.wr⟩
  · exact ⟨_, D.st⟩
theorem Stp.nO {G O0 : Addr → Prop} {H H' : Hp} (k : Kp G H H') (g : ∀ b, G b → O0 b) : Stp O0 (nO O0 H H') H H' := ⟨k.mono fun b z => .inl (g b z), fun _ z => z.1⟩
section
variable {P : Program} {w : World} {K : PySem.W.Frag} {mg : Str → Option Value} {base : Heap} {c : Cl}
def sp_Device_init (c : Cl) : Sp := fun vs H Q _ => ∃ p dx, vs = [.ref p] ∧ H p = some (.ins c.Device dx []) ∧ ∀ H' O, DevAt c H' p O ⟨[], [], [], [], 0, none⟩ → Kp (F1 p) H H' → (∀ b, O b → b = p ∨ H b = none) → Q .non H'
theorem mk_Device (T : Txt K mg c) : GC P w K mg base CX0 1 "Device" c.Device (sp_Device_init c) := by
  obtain ⟨f, fd, F, gf, gi⟩ := T.f_Device___init__
  have tc := T.cl_Device; have t1 := T.n_Device_pages; have t2 := T.n_Device_page_writes; have t3 := T.n_Device_durable_log; have t4 := T.n_Device_log_steps; have t5 := T.n_Device_done; have t6 := T.n_Device_most
  refine ⟨f, fd, ["self"], F.ok sc_Device___init__ ?_ (fun cdv A outer s H vs Q E hr h => ?_), ⟨T.mk_Device.1, gf, gi, T.mk_Device.2⟩, T.mg_Device, (F.binds (ps := ["self"]) fun _ _ _ _ _ _ us hl => match us, hl with | [_], _ => rfl)⟩
  · rintro vs H Q E ⟨_, _, rfl, _⟩
    rfl
  · obtain ⟨p, dx, rfl, hp, k⟩ := h
    refine ⟨_, (pss_cons (ps_fld (pv 0) pe_dnewK rfl)
      (pss_cons (ps_fld (pv 0) (pe_lst pa_nil) rfl)
      (pss_cons (ps_fld (pv 0) (pe_lst pa_nil) rfl)
      (pss_cons (ps_fld (pv 0) (pe_lst pa_nil) rfl)
      (pss_cons (ps_fld (pv 0) pe_int rfl)
      (pss_one (ps_fld (pv 0) pe_non rfl))))))), ?_⟩
    walk_at "cx"
    walk_at "rd"
    refine x_dnew fun a1 H1 ha1 k1 h1 => ?_
    have n1 : p ≠ a1 := ne_of_none hp ha1
    walk_at "rd"
    intro H2 p2 k2
    have h1' := k2.get h1 n1.symm
    walk_at "rd"
    refine x_newL fun a2 H3 ha2 k3 h2 => ?_
    have n2 : p ≠ a2 := ne_of_none p2 ha2
    have n12 : a1 ≠ a2 := ne_of_none h1' ha2
    walk_at "rd"
    intro H4 p4 k4
    walk_at "rd"
    refine x_newL fun a3 H5 ha3 k5 h3 => ?_
    have n3 : p ≠ a3 := ne_of_none p4 ha3
    have h1d := k4.get (k3.get h1' id) n1.symm
    have h2d := k4.get h2 n2.symm
    have n13 : a1 ≠ a3 := ne_of_none h1d ha3
    have n23 : a2 ≠ a3 := ne_of_none h2d ha3
    walk_at "rd"
    intro H6 p6 k6
    walk_at "rd"
    refine x_newL fun a4 H7 ha4 k7 h4 => ?_
    have n4 : p ≠ a4 := ne_of_none p6 ha4
    have h1f := k6.get (k5.get h1d id) n1.symm
    have h2f := k6.get (k5.get h2d id) n2.symm
    have h3f := k6.get h3 n3.symm
    have n24 : a2 ≠ a4 := ne_of_none h2f ha4
    have n34 : a3 ≠ a4 := ne_of_none h3f ha4
    walk_at "rd"
    intro H8 p8 k8
    walk_at "rd"
    intro H9 p9 k9
    walk_at "rd"
    intro H10 p10 k10
    have kk : ∀ {b o}, H7 b = some o → p ≠ b → H10 b = some o := fun hb n => k10.get (k9.get (k8.get hb n.symm) n.symm) n.symm
    have f2 : H a2 = none := k1.free (k2.free ha2 n2.symm) id
    have f3 : H a3 = none := k1.free (k2.free (k3.free (k4.free ha3 n3.symm) id) n3.symm) id
    have f4 : H a4 = none := k1.free (k2.free (k3.free (k4.free (k5.free (k6.free ha4 n4.symm) id) n4.symm) id) n4.symm) id
    have D : DevA c (fun x => F1 p x ∨ H x = none) H10 p dx a1 a2 a3 a4 [] [] ⟨[], [], [], [], 0, none⟩ := ⟨p10, kk (k7.get h1f id) n1, .nil, kk (k7.get h2f id) n2, .nil, ⟨kk (k7.get h3f id) n3, .inr f3, by
      rintro (z | z | z | z)
      · exact n3 z.symm
      · exact n13 z.symm
      · exact n23 z.symm
      · exact n34 z⟩, kk h4 n4, n24, by
      rintro b (z | z | z | z)
      · exact .inl z
      · exact .inr (by rw [z]; exact ha1)
      · exact .inr (by rw [z]; exact f2)
      · exact .inr (by rw [z]; exact f4)⟩
    refine k H10 _ (D.clo rfl) ?_ fun b z => z.1
    · have e0 : ∀ b, F0 b → F1 p b ∨ H b = none := fun _ z => z.elim
      have e1 : ∀ b, F1 p b → F1 p b ∨ H b = none := fun _ z => .inl z
      exact (((((((((k1.mono e0).trans k2 e1).trans k3 e0).trans k4 e1).trans k5 e0).trans k6 e1).trans k7 e0).trans k8 e1).trans k9 e1).trans k10 e1
theorem DevA.mk' {O : Addr → Prop} {H H' : Hp} {p dx a1 a2 a3 a4 : Addr} {kvs : List (Key × V)} {ws : List V} {d : DevS} {n : Int} {m : Option Int} (h : DevA c O H p dx a1 a2 a3 a4 kvs ws d) (s : Kp (F1 p) H H')
    (o : H' p = some (.ins c.Device dx (F_Device (.ref a1) (.ref a2) (.ref a3) (.ref a4) (.int n) (oV m)))) : DevA c O H' p dx a1 a2 a3 a4 kvs ws { d with done := n, most := m } := by
  have q : ∀ a ds, Im H O (DevG p a1 a2 a4) a ds → Im H' O (DevG p a1 a2 a4) a ds := fun a ds i => i.kp s fun b z => .inl z
  exact ⟨o, s.get h.pg h.np1.symm, Paired.mono (fun _ _ ⟨e, a, ev, i⟩ => ⟨e, a, ev, q _ _ i⟩) h.pr, s.get h.wr h.np2.symm, Paired.mono (fun _ _ ⟨t, a, ev, ht, i⟩ => ⟨t, a, ev, s.tup ht, q _ _ i⟩) h.wp, q _ _ h.lg, s.get h.st h.np4.symm, h.ne, h.ow⟩
def sp_Device_step (c : Cl) : Sp := fun vs H Q E => ∃ O p dx a1 a2 a3 a4 kvs ws d, vs = [.ref p] ∧ DevA c O H p dx a1 a2 a3 a4 kvs ws d ∧
  (can d = true → ∀ H', DevA c O H' p dx a1 a2 a3 a4 kvs ws { d with done := d.done + 1 } → Kp (F1 p) H H' → Q .non H') ∧ (can d = false → E (.ref c.PowerCut) none H)
theorem ok_Device_step (T : Txt K mg c) : GM P w K mg base (L2.CX P w) 1 c.Device "step" (sp_Device_step c) := by
  obtain ⟨f, fd, F, gf, gi⟩ := T.f_Device_step
  have tc := T.cl_Device; have t5 := T.n_Device_done; have t6 := T.n_Device_most
  refine ⟨f, fd, ["self"], F.okX sc_Device_step ?_ (fun cdv A outer s H vs Q E hr h => ?_), ⟨gf, gi, F.kp⟩, (F.binds (ps := ["self"]) fun _ _ _ _ _ _ us hl => match us, hl with | [_], _ => rfl)⟩
  · rintro vs H Q E ⟨_, _, _, _, _, _, _, _, _, _, rfl, _⟩
    rfl
  · obtain ⟨O, p, dx, a1, a2, a3, a4, kvs, ws, d, rfl, D, k, e⟩ := h
    refine ⟨_, (pss_cons (ps_if (PW.pt (pw_and (pt_cmpR o_notN (pe_fldK rfl (pv 0)) pe_non (nomark _)) (pw_and1 (pt_cmpR op_ge (pe_fldK rfl (pv 0)) (pe_fldK rfl (pv 0)) (nomark _))))) (pss_one (ps_raise rfl (takes_of (E := E) rfl rfl rfl rfl) (pmk_X T.ex_PowerCut))) pss_nil)
      (pss_one (ps_fldaug (pv 0) pe_int in_add))), ?_⟩
    walk_at "cx"
    cases hm : d.most with
    | none =>
      have ho : H p = some (.ins c.Device dx (F_Device (.ref a1) (.ref a2) (.ref a3) (.ref a4) (.int d.done) .non)) := by have q := D.o; rw [hm] at q; exact q
      walk_at "rd"
      intro H1 p1 k1
      have q := D.mk' (n := d.done + 1) (m := d.most) k1 (by rw [hm]; exact p1)
      exact k (by unfold can; rw [hm]) H1 q k1
    | some m =>
      have ho : H p = some (.ins c.Device dx (F_Device (.ref a1) (.ref a2) (.ref a3) (.ref a4) (.int d.done) (.int m))) := by have q := D.o; rw [hm] at q; exact q
      walk_at "rd"
      refine ite_dec (fun z => ?_) fun z => ?_
      · refine e ?_
        unfold can; rw [hm]; exact decide_eq_false (by omega)
      · walk_at "rd"
        intro H1 p1 k1
        have q := D.mk' (n := d.done + 1) (m := d.most) k1 (by rw [hm]; exact p1)
        exact k (by unfold can; rw [hm]; exact decide_eq_true (by omega)) H1 q k1
/-- what a raising method of the device promises: op says what it leaves, and whether the power lasts -/
def spD (c : Cl) (H : Hp) (p : Addr) (O : Addr → Prop) (r : DevS × Bool) (Q : Hp → Prop) (E : XK) : Prop :=
  ∀ H' O', DevAt c H' p O' r.1 → Stp O O' H H' → if r.2 = true then Q H' else E (.ref c.PowerCut) none H'
theorem DevG.sub {p a1 a2 a4 : Addr} : ∀ b, F1 p b → DevG p a1 a2 a4 b := fun b z => .inl z
/-- no page is longer than a page -/
def Sz (l : List (Int × List Int)) : Prop := ∀ q ∈ l, q.2.length ≤ 256
theorem aput_sz {l : List (Int × List Int)} {n : Int} {ds : List Int} (h : Sz l) (hd : ds.length ≤ 256) : Sz (aput l n ds) := by
  intro q hq
  unfold aput at hq
  split at hq
  · obtain ⟨r, hr, rfl⟩ := List.mem_map.mp hq
    split
    · exact hd
    · exact h r hr
  · rcases List.mem_append.mp hq with hq | hq
    · exact h q hq
    · rw [List.mem_singleton.mp hq]; exact hd
theorem aget_sz {l : List (Int × List Int)} {n : Int} (h : Sz l) : ((aget l n).getD zeros).length ≤ 256 := by
  unfold aget
  cases e : l.find? fun q => decide (q.1 = n) with
  | none => show zeros.length ≤ 256; unfold zeros; rw [List.length_replicate]; exact Nat.le_refl _
  | some q => exact h q (List.mem_of_find?_eq_some e)
theorem puts_sz : ∀ {ws l : List (Int × List Int)}, Sz l → Sz ws → Sz (ws.foldl (fun l q => aput l q.1 q.2) l)
  | [], _, h, _ => h
  | q :: ws, l, h, hw => puts_sz (ws := ws) (aput_sz h (hw q (by simp))) fun r hr => hw r (List.mem_cons_of_mem _ hr)
theorem dFate_sz {l : List (Int × List Int)} {q : (Int × List Int) × Int} (h : Sz l) (hq : q.1.2.length ≤ 256) : Sz (dFate l q) := by
  unfold dFate
  split
  · exact aput_sz h hq
  · split
    · refine aput_sz h ?_
      have := aget_sz (n := q.1.1) h
      rw [List.length_append, List.length_take, List.length_drop]; omega
    · exact h
theorem dFates_sz : ∀ {ws : List ((Int × List Int) × Int)} {l : List (Int × List Int)}, Sz l → (∀ q ∈ ws, q.1.2.length ≤ 256) → Sz (ws.foldl dFate l)
  | [], _, h, _ => h
  | q :: ws, l, h, hw => dFates_sz (ws := ws) (dFate_sz h (hw q (by simp))) fun r hr => hw r (List.mem_cons_of_mem _ hr)
/-- what a device's state may hold at most -/
def Sml (d : DevS) : Prop := d.writes.length ≤ 1000000 ∧ d.pages.length + d.writes.length ≤ 2000000 ∧ d.log.length + d.steps.length ≤ 8000000 ∧ Sz d.pages ∧ Sz d.writes
theorem F1.g {p a1 a2 a4 : Addr} {H : Hp} : ∀ b, F1 p b → DevG p a1 a2 a4 b ∨ H b = none := fun b z => .inl (.inl z)
theorem spD.yes {H : Hp} {p : Addr} {O : Addr → Prop} {d : DevS} {fn : DevS → DevS} {Q : Hp → Prop} {E : XK} (k : spD c H p O (pw d fn) Q E) (hc : can d = true) {H' : Hp} {O' : Addr → Prop} (D : DevAt c H' p O' (fn { d with done := d.done + 1 })) (s : Stp O O' H H') : Q H' := by
  unfold spD pw at k
  rw [if_pos hc] at k
  have q := k H' O' D s
  rw [if_pos rfl] at q
  exact q
theorem spD.no {H : Hp} {p : Addr} {O : Addr → Prop} {d : DevS} {fn : DevS → DevS} {Q : Hp → Prop} {E : XK} (k : spD c H p O (pw d fn) Q E) (hc : can d = false) (D : DevAt c H p O d) : E (.ref c.PowerCut) none H := by
  unfold spD pw at k
  rw [if_neg (by rw [hc]; exact Bool.false_ne_true)] at k
  have q := k H O D (Stp.refl _ _)
  rw [if_neg (by exact Bool.false_ne_true)] at q
  exact q
/-- a fresh object is none of the footprint -/
theorem DevA.fresh {O : Addr → Prop} {H : Hp} {p dx a1 a2 a3 a4 b : Addr} {kvs : List (Key × V)} {ws : List V} {d : DevS} (D : DevA c O H p dx a1 a2 a3 a4 kvs ws d) (hb : H b = none) : ¬ DevG p a1 a2 a4 b := by
  rintro (z | z | z | z)
  · exact ne_of_none D.o hb z.symm
  · exact ne_of_none D.pg hb z.symm
  · exact ne_of_none D.wr hb z.symm
  · exact ne_of_none D.st hb z.symm
theorem DevA.trk {O : Addr → Prop} {H : Hp} {p dx a1 a2 a3 a4 b : Addr} {kvs : List (Key × V)} {ws : List V} {d : DevS} (D : DevA c O H p dx a1 a2 a3 a4 kvs ws d) (g : DevG p a1 a2 a4 b) : ∃ o, H b = some o := by
  rcases g with rfl | rfl | rfl | rfl
  · exact ⟨_, D.o⟩
  · exact ⟨_, D.pg⟩
  · exact ⟨_, D.wr⟩
  · exact ⟨_, D.st⟩
def sp_Device_write_page (c : Cl) (K : PySem.W.Frag) : Sp := fun vs H Q E => ∃ p O d n l ds, vs = [.ref p, .int n, .ref l] ∧ DevAt c H p O d ∧ SqL K H l (ds.map V.int) ∧ ¬ O l ∧ Sml d ∧ spD c H p O (dWrite n ds d) (Q .non) E
theorem ok_Device_write_page (T : Txt K mg c) : GM P w K mg base (L2.CX P w) 2 c.Device "write_page" (sp_Device_write_page c K) := by
  obtain ⟨f, fd, F, gf, gi⟩ := T.f_Device_write_page
  have tc_Device := T.cl_Device; have tn_Device_pages := T.n_Device_pages; have tn_Device_page_writes := T.n_Device_page_writes; have tn_Device_durable_log := T.n_Device_durable_log; have tn_Device_log_steps := T.n_Device_log_steps; have tn_Device_done := T.n_Device_done; have tn_Device_most := T.n_Device_most
  refine ⟨f, fd, ["self", "number", "data"], F.okX sc_Device_write_page ?_ (fun cdv A outer s H vs Q E hr h => ?_), ⟨gf, gi, F.kp⟩, (F.binds (ps := ["self", "number", "data"]) fun _ _ _ _ _ _ us hl => match us, hl with | [_, _, _], _ => rfl)⟩
  · rintro vs H Q E ⟨_, _, _, _, _, _, rfl, _⟩
    rfl
  · obtain ⟨p, O0, d, n, l, ds, rfl, hD, hl, nl, sm, k⟩ := h
    obtain ⟨O, dx, a1, a2, a3, a4, kvs, ws, eO, D, og⟩ := hD.opn
    have fr : ∀ {x}, H x = none → O x := fun h => by rw [eO]; exact .inr h
    have ho := D.o
    refine ⟨_, (pss_cons (ps_expr (pe_gm0 T.cl_Device (ok_Device_step T) (pv 0) (hr.mono (by decide)) (passE (E := E) rfl rfl rfl rfl)))
      (pss_one (ps_expr (pe_kBM rfl (pe_bm PySem.F.plainAttrs_list PySem.F.slot_list_append PySem.F.type_list_append mt_append (pe_fldK rfl (pv 0)) (pa_cons (pe_tup (pa_cons (pv 1) (pa_cons (pe_callTy (r := rLstQ K) c_list (by rfl) T.z_list (by decide +kernel) (pa_cons (pv 2) pa_nil)) pa_nil))) pa_nil)))))), ?_⟩
    walk_at "cx"
    walk_at "rd"
    refine ⟨O, p, dx, a1, a2, a3, a4, kvs, ws, d, rfl, D, fun hc H1 D1 k1 => ?_, fun hc => k.no hc hD⟩
    have ho1 := D1.o
    have hw1 := D1.wr
    walk_at "rd"
    refine x_lstL (k1.sqL hl fun z => nl (og _ (.inl z))) fun b H2 hb k2 hb2 => ?_
    walk_at "rd"
    refine x_newT fun t H3 ht k3 ht3 => ?_
    walk_at "rd"
    have D3 := (D1.same k2).same k3
    have lw : ws.length = d.writes.length := D.wp.length
    refine x_app D3.wr (by have := sm.1; omega) fun H4 hw4 k4 => ?_
    have nb := D1.fresh hb
    have sub : ∀ x, F1 a2 x → DevG p a1 a2 a4 x := fun x z => .inr (.inr (.inl z))
    have D4 : DevA c O H4 p dx a1 a2 a3 a4 kvs (ws ++ [.ref t]) { d with writes := d.writes ++ [(n, ds)], done := d.done + 1 } :=
      ⟨k4.get D3.o D3.np2, k4.get D3.pg D3.n12, Paired.mono (fun _ _ r => r.kp k4 sub) D3.pr, hw4, (Paired.mono (fun _ _ r => r.kp k4 sub) D3.wp).snoc ⟨t, b, rfl, k4.tup ht3, k4.get (k3.get hb2 id) fun z => nb (sub b z), fr (k1.free hb fun z => nb (.inl z)), nb⟩, D3.lg.kp k4 sub, k4.get D3.st D3.ne.symm, D3.ne, D3.ow⟩
    exact k.yes hc (D4.clo eO) (Stp.nO (G := DevG p a1 a2 a4) (((k1.mono F1.g).trans k2 fun _ z => z.elim).trans k3 (fun _ z => z.elim) |>.trans k4 fun b z => .inl (.inr (.inr (.inl z)))) og)
theorem any_pr {R : Key × V → Int × List Int → Prop} (hR : ∀ p q, R p q → p.1 = .inl q.1) (n : Int) : ∀ {kvs : List (Key × V)} {l : List (Int × List Int)}, Paired R kvs l → (kvs.any fun kv => decide (kv.1 = .inl n)) = l.any fun q => decide (q.1 = n)
  | _, _, .nil => rfl
  | _, _, .cons (a := p) (b := q) h t => by
    rw [List.any_cons, List.any_cons, any_pr hR n t, hR p q h]
    congr 1
    exact decide_eq_decide.mpr ⟨fun e => Sum.inl.inj e, fun e => by rw [e]⟩
theorem map_pr {R : Key × V → Int × List Int → Prop} (hR : ∀ p q, R p q → p.1 = .inl q.1) {n : Int} {v : V} {ds : List Int} (h : R (.inl n, v) (n, ds)) : ∀ {kvs : List (Key × V)} {l : List (Int × List Int)}, Paired R kvs l →
    Paired R (kvs.map fun kv => if kv.1 = .inl n then (kv.1, v) else kv) (l.map fun q => if q.1 = n then (q.1, ds) else q)
  | _, _, .nil => .nil
  | _, _, .cons (a := p) (b := q) r t => by
    refine .cons ?_ (map_pr hR h t)
    have e := hR p q r
    show R (if p.1 = .inl n then (p.1, v) else p) (if q.1 = n then (q.1, ds) else q)
    by_cases z : q.1 = n
    · rw [if_pos (by rw [e, z]), if_pos z, e, z]; exact h
    · rw [if_neg (by rw [e]; exact fun w => z (Sum.inl.inj w)), if_neg z]; exact r
theorem put_pr {R : Key × V → Int × List Int → Prop} (hR : ∀ p q, R p q → p.1 = .inl q.1) {n : Int} {v : V} {ds : List Int} (h : R (.inl n, v) (n, ds)) {kvs : List (Key × V)} {l : List (Int × List Int)} (t : Paired R kvs l) : Paired R (putK kvs (.inl n) v) (aput l n ds) := by
  unfold putK aput
  rw [any_pr hR n t]
  split
  · exact map_pr hR h t
  · exact t.snoc h
theorem get_pr {R : Key × V → Int × List Int → Prop} (hR : ∀ p q, R p q → p.1 = .inl q.1) (n : Int) : ∀ {kvs : List (Key × V)} {l : List (Int × List Int)}, Paired R kvs l →
    (valV kvs (.inl n) = none ∧ aget l n = none) ∨ ∃ v ds, valV kvs (.inl n) = some v ∧ aget l n = some ds ∧ R (.inl n, v) (n, ds)
  | _, _, .nil => .inl ⟨rfl, rfl⟩
  | _, _, .cons (a := p) (b := q) (l₁ := kvs) (l₂ := l) r t => by
    have e := hR p q r
    by_cases z : q.1 = n
    · refine .inr ⟨p.2, q.2, valV_pos (by rw [e, z]), ?_, ?_⟩
      · unfold aget
        rw [List.find?_cons_of_pos (by exact decide_eq_true z)]; rfl
      · have : p = (.inl n, p.2) := by rw [← z, ← e]
        have e2 : q = (n, q.2) := by rw [← z]
        rw [← this, ← e2]; exact r
    · have h1 : valV (p :: kvs) (.inl n) = valV kvs (.inl n) := valV_neg (by rw [e]; exact fun w => z (Sum.inl.inj w))
      have h2 : aget (q :: l) n = aget l n := by
        unfold aget
        rw [List.find?_cons_of_neg (by simpa using z)]
      rw [h1, h2]
      exact get_pr hR n t
theorem RPg.key {H : Hp} {O G : Addr → Prop} : ∀ p q, RPg H O G p q → p.1 = .inl q.1 := fun _ _ h => h.1
theorem aput_len (l : List (Int × List Int)) (n : Int) (v : List Int) : (aput l n v).length ≤ l.length + 1 := by
  unfold aput; split
  · rw [List.length_map]; omega
  · rw [List.length_append]; exact Nat.le_refl _
theorem puts_len : ∀ (l : List (Int × List Int)) (pages : List (Int × List Int)), (l.foldl (fun l q => aput l q.1 q.2) pages).length ≤ pages.length + l.length
  | [], _ => Nat.le_refl _
  | q :: l, pages => by
    have h1 := puts_len l (aput pages q.1 q.2)
    have h2 := aput_len pages q.1 q.2
    show (l.foldl (fun l q => aput l q.1 q.2) (aput pages q.1 q.2)).length ≤ pages.length + (l.length + 1)
    omega
theorem pget {α β : Type} {R : α → β → Prop} : ∀ {l : List α} {m : List β} {i : Nat} {x : α}, Paired R l m → l[i]? = some x → ∃ y, m[i]? = some y ∧ R x y
  | _, _, 0, _, .cons h _, e => by cases (Option.some.inj e); exact ⟨_, rfl, h⟩
  | _, _, i + 1, _, .cons _ t, e => pget (i := i) t e
  | _, _, _, _, .nil, e => by simp at e
def sp_Device_sync_pages (c : Cl) : Sp := fun vs H Q E => ∃ p O d, vs = [.ref p] ∧ DevAt c H p O d ∧ Sml d ∧ spD c H p O (dSyncP d) (Q .non) E
theorem ok_Device_sync_pages (T : Txt K mg c) : GM P w K mg base (L2.CX P w) 2 c.Device "sync_pages" (sp_Device_sync_pages c) := by
  obtain ⟨f, fd, F, gf, gi⟩ := T.f_Device_sync_pages
  have tc_Device := T.cl_Device; have tn_Device_pages := T.n_Device_pages; have tn_Device_page_writes := T.n_Device_page_writes; have tn_Device_durable_log := T.n_Device_durable_log; have tn_Device_log_steps := T.n_Device_log_steps; have tn_Device_done := T.n_Device_done; have tn_Device_most := T.n_Device_most
  refine ⟨f, fd, ["self"], F.okX sc_Device_sync_pages ?_ (fun cdv A outer s H vs Q E hr h => ?_), ⟨gf, gi, F.kp⟩, (F.binds (ps := ["self"]) fun _ _ _ _ _ _ us hl => match us, hl with | [_], _ => rfl)⟩
  · rintro vs H Q E ⟨_, _, _, rfl, _⟩
    rfl
  · obtain ⟨p, O0, d, rfl, hD, sm, k⟩ := h
    obtain ⟨O, dx, a1, a2, a3, a4, kvs, ws, eO, D, og⟩ := hD.opn
    have fr : ∀ {x}, H x = none → O x := fun h => by rw [eO]; exact .inr h
    have ho := D.o
    refine ⟨_, (pss_cons (ps_expr (pe_gm0 T.cl_Device (ok_Device_step T) (pv 0) (hr.mono (by decide)) (passE (E := E) rfl rfl rfl rfl)))
      (pss_cons (ps_for (passes_of rfl) rfl (pi_listK rfl (pe_fldK rfl (pv 0))) (pg_kT rfl (pg_tup (n := 2) rfl (pgs_cons (pg_name (i := 1) sc_Device_sync_pages.nd rfl (Or.inl rfl)) (pgs_cons (pg_name (i := 2) sc_Device_sync_pages.nd rfl (Or.inl rfl)) pgs_nil)))) (pss_one (ps_dput (hu_of hr) (pe_fldK rfl (pv 0)) (pv 1) (pv 2) rfl)))
      (pss_one (ps_fld (pv 0) (pe_lst pa_nil) rfl)))), ?_⟩
    walk_at "cx"
    walk_at "rd"
    refine ⟨O, p, dx, a1, a2, a3, a4, kvs, ws, d, rfl, D, fun hc H1 D1 k1 => ?_, fun hc => k.no hc hD⟩
    have ho1 := D1.o
    have hw1 := D1.wr
    walk_at "rd"
    refine wfor Wk.list (fun i σ H' => ∃ kvs' u v, σ = [some (.ref p), u, v] ∧ DevA c O H' p dx a1 a2 a3 a4 kvs' ws { d with pages := (d.writes.take i).foldl (fun l q => aput l q.1 q.2) d.pages, done := d.done + 1 } ∧ Kp (DevG p a1 a2 a4) H H')
      ⟨kvs, none, none, rfl, D1, k1.mono F1.g⟩ (fun i σ H' ⟨_, _, _, _, D', _⟩ => SqL.of D'.wr) ?_ ?_
    · rintro i x σ H2 ex ⟨kvs', u, v, rfl, D2, kk⟩
      obtain ⟨q, eq, t, a, rfl, ht, hi⟩ := pget D2.wp ex
      have ho2 := D2.o
      have hp2 := D2.pg
      have eq' : d.writes[i]? = some q := eq
      have hl : kvs'.length = ((d.writes.take i).foldl (fun l q => aput l q.1 q.2) d.pages).length := D2.pr.length
      have hl2 := puts_len (d.writes.take i) d.pages
      have hl3 : (d.writes.take i).length ≤ d.writes.length := by rw [List.length_take]; omega
      walk_at "rd"
      refine x_dpI hp2 (by have := sm.1; have := sm.2.1; omega) fun H3 hp3 k3 => ?_
      have sub : ∀ x, F1 a1 x → DevG p a1 a2 a4 x := fun x z => .inr (.inl z)
      refine ⟨putK kvs' (.inl q.1) (.ref a), _, _, rfl, ?_, kk.trans k3 fun x z => .inl (sub x z)⟩
      have e : (d.writes.take (i + 1)).foldl (fun l q => aput l q.1 q.2) d.pages = aput ((d.writes.take i).foldl (fun l q => aput l q.1 q.2) d.pages) q.1 q.2 := by
        rw [List.take_succ, eq', List.foldl_append]; rfl
      rw [e]
      exact ⟨k3.get D2.o D2.np1, hp3, put_pr RPg.key ⟨rfl, a, rfl, hi.kp k3 sub⟩ (Paired.mono (fun _ _ r => r.kp k3 sub) D2.pr), k3.get D2.wr D2.n12.symm, Paired.mono (fun _ _ r => r.kp k3 sub) D2.wp, D2.lg.kp k3 sub, k3.get D2.st D2.n14.symm, D2.ne, D2.ow⟩
    · rintro σ H2 ⟨kvs', u, v, rfl, D2, kk⟩
      have lw : ws.length = d.writes.length := D.wp.length
      rw [lw, List.take_length] at D2
      have ho2 := D2.o
      walk_at "rd"
      refine x_newL fun b H3 hb k3 hb3 => ?_
      have D3 := D2.same k3
      have ho3 := D3.o
      walk_at "rd"
      intro H4 p4 k4
      have nb := D2.fresh hb
      have nbp : b ≠ p := fun z => nb (.inl z)
      have nb1 : b ≠ a1 := fun z => nb (.inr (.inl z))
      have nb4 : b ≠ a4 := fun z => nb (.inr (.inr (.inr z)))
      have k24 : Kp (DevG p a1 a2 a4) H2 H4 := (k3.mono fun _ z => z.elim).trans k4 fun x z => .inl (.inl z)
      have im : ∀ a ds, Im H2 O (DevG p a1 a2 a4) a ds → Im H4 O (DevG p a1 b a4) a ds := fun a ds i => ⟨k24.get i.1 i.2.2, i.2.1, by
        rintro (z | z | z | z)
        · exact i.2.2 (.inl z)
        · exact i.2.2 (.inr (.inl z))
        · exact ne_of_none i.1 hb z
        · exact i.2.2 (.inr (.inr (.inr z)))⟩
      have D4 : DevA c O H4 p dx a1 b a3 a4 kvs' [] { d with pages := d.writes.foldl (fun l q => aput l q.1 q.2) d.pages, writes := [], done := d.done + 1 } :=
        ⟨p4, k4.get D3.pg D3.np1.symm, Paired.mono (fun _ _ r => r.im im) D2.pr, k4.get hb3 nbp, .nil, im _ _ D2.lg, k4.get D3.st D3.np4.symm, nb4, by
          rintro x (z | z | z | z)
          · exact D.ow _ (.inl z)
          · exact D.ow _ (.inr (.inl z))
          · rw [z]; exact fr (kk.free hb nb)
          · exact D.ow _ (.inr (.inr (.inr z)))⟩
      exact k.yes hc (D4.clo eO) (Stp.nO (G := DevG p a1 a2 a4) (kk.trans k24 fun _ z => .inl z) og)
/-- one more step of the log -/
theorem DevA.byte {O : Addr → Prop} {H H' : Hp} {p dx a1 a2 a3 a4 : Addr} {kvs : List (Key × V)} {ws : List V} {d : DevS} {b : Option Int} (D : DevA c O H p dx a1 a2 a3 a4 kvs ws d) (k4 : Kp (F1 a4) H H') (h : H' a4 = some (.lst (d.steps.map oV ++ [oV b]))) : DevA c O H' p dx a1 a2 a3 a4 kvs ws { d with steps := d.steps ++ [b] } := by
  have sub : ∀ x, F1 a4 x → DevG p a1 a2 a4 x := fun x z => .inr (.inr (.inr z))
  exact ⟨k4.get D.o D.np4, k4.get D.pg D.n14, Paired.mono (fun _ _ r => r.kp k4 sub) D.pr, k4.get D.wr D.ne, Paired.mono (fun _ _ r => r.kp k4 sub) D.wp, D.lg.kp k4 sub, by rw [h]; simp, D.ne, D.ow⟩
def sp_Device_append (c : Cl) (K : PySem.W.Frag) : Sp := fun vs H Q E => ∃ p O d l bs, vs = [.ref p, .ref l] ∧ DevAt c H p O d ∧ SqL K H l (bs.map V.int) ∧ ¬ O l ∧ Sml d ∧ bs.length ≤ 8000000 ∧ spD c H p O (dApp bs d) (Q .non) E
theorem dApp_app : ∀ (bs : List Int) (d : DevS) (b : Int), (dApp bs d).2 = true → dApp (bs ++ [b]) d = dByte (some b) (dApp bs d).1
  | [], d, b, _ => by
    show (if (dByte (some b) d).2 = true then ((dByte (some b) d).1, true) else (d, false)) = dByte (some b) d
    unfold dByte pw
    by_cases h : can d = true
    · rw [if_pos h, if_pos rfl]
    · rw [if_neg h, if_neg Bool.false_ne_true]
  | x :: bs, d, b, h => by
    show (if (dByte (some x) d).2 = true then dApp (bs ++ [b]) (dByte (some x) d).1 else (d, false)) = _
    by_cases q : (dByte (some x) d).2 = true
    · have e : dApp (x :: bs) d = dApp bs (dByte (some x) d).1 := by show (if _ then _ else _) = _; rw [if_pos q]
      rw [if_pos q, e]
      rw [e] at h
      exact dApp_app bs _ b h
    · have e : dApp (x :: bs) d = (d, false) := by show (if _ then _ else _) = _; rw [if_neg q]
      rw [e] at h
      cases h
theorem dApp_stop : ∀ (bs cs : List Int) (d : DevS) (b : Int), (dApp bs d).2 = true → can (dApp bs d).1 = false → dApp (bs ++ b :: cs) d = ((dApp bs d).1, false)
  | [], cs, d, b, _, h => by
    show (if (dByte (some b) d).2 = true then _ else (d, false)) = (d, false)
    have : (dByte (some b) d).2 = false := by unfold dByte pw; rw [if_neg (by rw [show can d = false from h]; exact Bool.false_ne_true)]
    rw [this]; rfl
  | x :: bs, cs, d, b, h, g => by
    show (if (dByte (some x) d).2 = true then dApp (bs ++ b :: cs) (dByte (some x) d).1 else (d, false)) = _
    by_cases q : (dByte (some x) d).2 = true
    · have e : dApp (x :: bs) d = dApp bs (dByte (some x) d).1 := by show (if _ then _ else _) = _; rw [if_pos q]
      rw [if_pos q, e]
      rw [e] at h g
      exact dApp_stop bs cs _ b h g
    · have e : dApp (x :: bs) d = (d, false) := by show (if _ then _ else _) = _; rw [if_neg q]
      rw [e] at h
      cases h
theorem dByte_steps (b : Option Int) (d : DevS) : (dByte b d).1.steps.length ≤ d.steps.length + 1 := by
  unfold dByte pw; split
  · show (d.steps ++ [b]).length ≤ _; rw [List.length_append]; exact Nat.le_refl _
  · exact Nat.le_succ _
theorem dApp_steps : ∀ (bs : List Int) (d : DevS), (dApp bs d).1.steps.length ≤ d.steps.length + bs.length
  | [], _ => Nat.le_refl _
  | x :: bs, d => by
    show (if (dByte (some x) d).2 = true then dApp bs (dByte (some x) d).1 else (d, false)).1.steps.length ≤ d.steps.length + (bs.length + 1)
    have h1 := dApp_steps bs (dByte (some x) d).1
    have h2 := dByte_steps (some x) d
    split
    · omega
    · show d.steps.length ≤ _; omega
theorem ok_Device_append (T : Txt K mg c) : GM P w K mg base (L2.CX P w) 2 c.Device "append" (sp_Device_append c K) := by
  obtain ⟨f, fd, F, gf, gi⟩ := T.f_Device_append
  have tc_Device := T.cl_Device; have tn_Device_pages := T.n_Device_pages; have tn_Device_page_writes := T.n_Device_page_writes; have tn_Device_durable_log := T.n_Device_durable_log; have tn_Device_log_steps := T.n_Device_log_steps; have tn_Device_done := T.n_Device_done; have tn_Device_most := T.n_Device_most
  refine ⟨f, fd, ["self", "data"], F.okX sc_Device_append ?_ (fun cdv A outer s H vs Q E hr h => ?_), ⟨gf, gi, F.kp⟩, (F.binds (ps := ["self", "data"]) fun _ _ _ _ _ _ us hl => match us, hl with | [_, _], _ => rfl)⟩
  · rintro vs H Q E ⟨_, _, _, _, _, rfl, _⟩
    rfl
  · obtain ⟨p, O0, d, l, bs, rfl, hD, hl, nl, sm, hz, k⟩ := h
    obtain ⟨O, dx, a1, a2, a3, a4, kvs, ws, eO, D, og⟩ := hD.opn
    have fr : ∀ {x}, H x = none → O x := fun h => by rw [eO]; exact .inr h
    have ho := D.o
    refine ⟨_, (pss_one (ps_for (passes_of rfl) rfl (pi_listK rfl (pv 1)) (pg_name (i := 2) sc_Device_append.nd rfl (Or.inl rfl)) (pss_cons (ps_expr (pe_gm0 T.cl_Device (ok_Device_step T) (pv 0) (hr.mono (by decide)) (passE (E := E) rfl rfl rfl rfl)))
      (pss_one (ps_expr (pe_kBM rfl (pe_bm PySem.F.plainAttrs_list PySem.F.slot_list_append PySem.F.type_list_append mt_append (pe_fldK rfl (pv 0)) (pa_cons (pv 2) pa_nil)))))))), ?_⟩
    walk_at "cx"
    walk_at "rd"
    refine wfor Wk.list (fun i σ H' => ∃ u, σ = [some (.ref p), some (.ref l), u] ∧ (dApp (bs.take i) d).2 = true ∧ DevA c O H' p dx a1 a2 a3 a4 kvs ws (dApp (bs.take i) d).1 ∧ Kp (DevG p a1 a2 a4) H H')
      ⟨none, rfl, rfl, D, Kp.refl _⟩ (fun i σ H' ⟨_, _, _, _, kk⟩ => kk.sqL hl fun z => nl (og _ z)) ?_ ?_
    · rintro i x σ H2 ex ⟨u, rfl, hb, D2, kk⟩
      have eb : ∃ b, bs[i]? = some b ∧ x = .int b := by
        rw [List.getElem?_map] at ex
        cases q : bs[i]? with
        | none => rw [q] at ex; cases ex
        | some z => rw [q] at ex; exact ⟨z, rfl, (Option.some.inj ex).symm⟩
      obtain ⟨b, eb, rfl⟩ := eb
      have ho2 := D2.o
      have tk : bs.take (i + 1) = bs.take i ++ [b] := by rw [List.take_succ, eb]; rfl
      walk_at "rd"
      refine ⟨O, p, dx, a1, a2, a3, a4, kvs, ws, _, rfl, D2, fun hc H3 D3 k3 => ?_, fun hc => ?_⟩
      · have ho3 := D3.o
        have hs3 := D3.st
        walk_at "rd"
        refine x_app hs3 (by
          have h1 := dApp_steps (bs.take i) d
          have h2 : (bs.take i).length ≤ bs.length := by rw [List.length_take]; omega
          have h3 := sm.2.2.1
          rw [List.length_map]
          show (dApp (bs.take i) d).1.steps.length < 16777216
          omega) fun H4 h4 k4 => ?_
        have e := dApp_app (bs.take i) d b hb
        rw [tk, e]
        have D4 := D3.byte (b := some b) k4 h4
        refine ⟨_, rfl, ?_, ?_, (kk.trans (k3.mono F1.g) fun x z => .inl z).trans k4 fun x z => .inl (.inr (.inr (.inr z)))⟩
        · unfold dByte pw; rw [if_pos hc]
        · unfold dByte pw; rw [if_pos hc]; exact D4
      · have e : dApp bs d = ((dApp (bs.take i) d).1, false) := by
          have q := dApp_stop (bs.take i) (bs.drop (i + 1)) d b hb hc
          have hi : i < bs.length := (List.getElem?_eq_some_iff.mp eb).1
          have hbi : bs[i] = b := (List.getElem?_eq_some_iff.mp eb).2
          rw [← hbi, ← List.drop_eq_getElem_cons hi, List.take_append_drop] at q
          exact q
        have q := k H2 _ (by rw [e]; exact D2.clo eO) (Stp.nO kk og)
        rw [e, if_neg (by exact Bool.false_ne_true)] at q
        exact q
    · rintro σ H2 ⟨u, rfl, hb, D2, kk⟩
      rw [List.length_map, List.take_length] at hb D2
      have q := k H2 _ (D2.clo eO) (Stp.nO kk og)
      rw [if_pos hb] at q
      exact q
def sp_Device_clear (c : Cl) : Sp := fun vs H Q E => ∃ p O d, vs = [.ref p] ∧ DevAt c H p O d ∧ Sml d ∧ spD c H p O (dByte none d) (Q .non) E
theorem ok_Device_clear (T : Txt K mg c) : GM P w K mg base (L2.CX P w) 2 c.Device "clear" (sp_Device_clear c) := by
  obtain ⟨f, fd, F, gf, gi⟩ := T.f_Device_clear
  have tc_Device := T.cl_Device; have tn_Device_pages := T.n_Device_pages; have tn_Device_page_writes := T.n_Device_page_writes; have tn_Device_durable_log := T.n_Device_durable_log; have tn_Device_log_steps := T.n_Device_log_steps; have tn_Device_done := T.n_Device_done; have tn_Device_most := T.n_Device_most
  refine ⟨f, fd, ["self"], F.okX sc_Device_clear ?_ (fun cdv A outer s H vs Q E hr h => ?_), ⟨gf, gi, F.kp⟩, (F.binds (ps := ["self"]) fun _ _ _ _ _ _ us hl => match us, hl with | [_], _ => rfl)⟩
  · rintro vs H Q E ⟨_, _, _, rfl, _⟩
    rfl
  · obtain ⟨p, O0, d, rfl, hD, sm, k⟩ := h
    obtain ⟨O, dx, a1, a2, a3, a4, kvs, ws, eO, D, og⟩ := hD.opn
    have fr : ∀ {x}, H x = none → O x := fun h => by rw [eO]; exact .inr h
    have ho := D.o
    refine ⟨_, (pss_cons (ps_expr (pe_gm0 T.cl_Device (ok_Device_step T) (pv 0) (hr.mono (by decide)) (passE (E := E) rfl rfl rfl rfl)))
      (pss_one (ps_expr (pe_kBM rfl (pe_bm PySem.F.plainAttrs_list PySem.F.slot_list_append PySem.F.type_list_append mt_append (pe_fldK rfl (pv 0)) (pa_cons pe_non pa_nil)))))), ?_⟩
    walk_at "cx"
    walk_at "rd"
    refine ⟨O, p, dx, a1, a2, a3, a4, kvs, ws, d, rfl, D, fun hc H1 D1 k1 => ?_, fun hc => k.no hc hD⟩
    have ho1 := D1.o
    have hs1 := D1.st
    walk_at "rd"
    refine x_app hs1 (by rw [List.length_map]; have := sm.2.2.1; show d.steps.length < _; omega) fun H4 h4 k4 => ?_
    exact k.yes hc ((D1.byte (b := none) k4 h4).clo eO) (Stp.nO (G := DevG p a1 a2 a4) ((k1.mono F1.g).trans k4 fun x z => .inl (.inr (.inr (.inr z)))) og)
def sp_Device_log (c : Cl) : Sp := fun vs H Q _ => ∃ p O d, vs = [.ref p] ∧ DevAt c H p O d ∧ Sml d ∧ ∀ b H', H b = none → Kp F0 H H' → H' b = some (.lst ((clog d).map V.int)) → Q (.ref b) H'
theorem lstep_len (l : List Int) (o : Option Int) : (lstep l o).length ≤ l.length + 1 := by
  cases o with
  | none => exact Nat.zero_le _
  | some b => show (l ++ [b]).length ≤ _; rw [List.length_append]; exact Nat.le_refl _
theorem lsteps_len : ∀ (os : List (Option Int)) (l : List Int), (os.foldl lstep l).length ≤ l.length + os.length
  | [], _ => Nat.le_refl _
  | o :: os, l => by
    have h1 := lsteps_len os (lstep l o)
    have h2 := lstep_len l o
    show (os.foldl lstep (lstep l o)).length ≤ l.length + (os.length + 1)
    omega
--HOT Device.log
theorem ok_Device_log (T : Txt K mg c) : GM P w K mg base CX0 1 c.Device "log" (sp_Device_log c) := by
  obtain ⟨f, fd, F, gf, gi⟩ := T.f_Device_log
  have tc_Device := T.cl_Device; have tn_Device_pages := T.n_Device_pages; have tn_Device_page_writes := T.n_Device_page_writes; have tn_Device_durable_log := T.n_Device_durable_log; have tn_Device_log_steps := T.n_Device_log_steps; have tn_Device_done := T.n_Device_done; have tn_Device_most := T.n_Device_most
  refine ⟨f, fd, ["self"], F.ok sc_Device_log ?_ (fun cdv A outer s H vs Q E hr h => ?_), ⟨gf, gi, F.kp⟩, (F.binds (ps := ["self"]) fun _ _ _ _ _ _ us hl => match us, hl with | [_], _ => rfl)⟩
  · rintro vs H Q E ⟨_, _, _, rfl, _⟩
    rfl
  · obtain ⟨p, O0, d, rfl, hD, sm, k⟩ := h
    obtain ⟨O, dx, a1, a2, a3, a4, kvs, ws, eO, D, og⟩ := hD.opn
    have fr : ∀ {x}, H x = none → O x := fun h => by rw [eO]; exact .inr h
    have ho := D.o
    have hs := D.st
    refine ⟨_, (pss_cons (ps_set (i := 1) sc_Device_log.nd rfl (Or.inl rfl) (pe_callTy (r := rLstQ K) c_list (by rfl) T.z_list (by decide +kernel) (pa_cons (pe_fldK rfl (pv 0)) pa_nil)))
      (pss_cons (ps_for PassesOwn.never rfl (pi_listK rfl (pe_fldK rfl (pv 0))) (pg_name (i := 2) sc_Device_log.nd rfl (Or.inl rfl)) (pss_one (ps_if (pt_cmpR o_isN (pv 2) pe_non (nomark _)) (pss_one (ps_set (i := 1) sc_Device_log.nd rfl (Or.inl rfl) (pe_lst pa_nil))) (pss_one (ps_expr (pe_kBM rfl (pe_bm PySem.F.plainAttrs_list PySem.F.slot_list_append PySem.F.type_list_append mt_append (pv 1) (pa_cons (pv 2) pa_nil))))))))
      (pss_one (ps_ret (pv 1))))), ?_⟩
    walk_at "cx"
    walk_at "rd"
    refine x_lstL (SqL.of D.lg.1) fun b H1 hb k1 hb1 => ?_
    have ho1 := k1.get ho id
    have hs1 := k1.get hs id
    walk_at "rd"
    refine wfor Wk.list (fun i σ H' => ∃ b u, σ = [some (.ref p), some (.ref b), u] ∧ H' b = some (.lst (((d.steps.take i).foldl lstep d.log).map V.int)) ∧ H b = none ∧ Kp F0 H H')
      ⟨b, none, rfl, hb1, hb, k1⟩ (fun i σ H' ⟨_, _, _, _, _, kk⟩ => SqL.of (kk.get hs id)) ?_ ?_
    · rintro i x σ H2 ex ⟨b, u, rfl, hb2, hb0, kk⟩
      have e : ∃ o, d.steps[i]? = some o ∧ x = oV o := by
        rw [List.getElem?_map] at ex
        cases q : d.steps[i]? with
        | none => rw [q] at ex; cases ex
        | some z => rw [q] at ex; exact ⟨z, rfl, (Option.some.inj ex).symm⟩
      obtain ⟨o, eo, rfl⟩ := e
      have tk : (d.steps.take (i + 1)).foldl lstep d.log = lstep ((d.steps.take i).foldl lstep d.log) o := by rw [List.take_succ, eo, List.foldl_append]; rfl
      have ll := lsteps_len (d.steps.take i) d.log
      have l2 : (d.steps.take i).length ≤ d.steps.length := by rw [List.length_take]; omega
      have := sm.2.2.1
      cases o with
      | none =>
        walk_at "rd"
        show rIsNQ .non .non _ _
        walk_at "rd"
        refine x_newL fun b' H3 hb' k3 hb3 => ?_
        exact ⟨b', some .non, rfl, by rw [tk]; exact hb3, kk.free hb' id, kk.trans k3 fun _ z => z.elim⟩
      | some y =>
        walk_at "rd"
        show rIsNQ (.int y) .non _ _
        walk_at "rd"
        show rAppend (.ref b) [.int y] _ _
        refine x_app hb2 (by rw [List.length_map]; omega) fun H3 hb3 k3 => ?_
        exact ⟨b, some (.int y), rfl, by rw [tk, hb3]; show _ = some (HO.lst (((d.steps.take i).foldl lstep d.log ++ [y]).map V.int)); rw [List.map_append]; rfl, hb0, kk.trans k3 fun x z => .inr (by rw [z]; exact hb0)⟩
    · rintro σ H2 ⟨b, u, rfl, hb2, hb0, kk⟩
      rw [List.length_map, List.take_length] at hb2
      walk_at "rd"
      exact k b H2 hb0 kk hb2
--TOH
/-- a new list of steps, a new log -/
theorem DevA.newL {O : Addr → Prop} {H1 H' : Hp} {p dx a1 a2 a3 a4 b3 b4 : Addr} {kvs : List (Key × V)} {ws : List V} {d : DevS} {lg : List Int} {sl : List (Option Int)} {n : Int} {mo : Option Int} (D : DevA c O H1 p dx a1 a2 a3 a4 kvs ws d)
    (h4 : H1 b4 = none) (k : Kp (F1 p) H1 H') (o : H' p = some (.ins c.Device dx (F_Device (.ref a1) (.ref a2) (.ref b3) (.ref b4) (.int n) (oV mo)))) (e3 : H' b3 = some (.lst (lg.map V.int))) (e4 : H' b4 = some (.lst (sl.map oV))) (n3 : ¬ DevG p a1 a2 b4 b3) (o3 : O b3) (o4 : O b4) :
    DevA c O H' p dx a1 a2 b3 b4 kvs ws { pages := d.pages, writes := d.writes, log := lg, steps := sl, done := n, most := mo } := by
  have nb := D.fresh h4
  have im : ∀ a ds, Im H1 O (DevG p a1 a2 a4) a ds → Im H' O (DevG p a1 a2 b4) a ds := fun a ds i => ⟨k.get i.1 fun z => i.2.2 (.inl z), i.2.1, by
    rintro (z | z | z | z)
    · exact i.2.2 (.inl z)
    · exact i.2.2 (.inr (.inl z))
    · exact i.2.2 (.inr (.inr (.inl z)))
    · exact ne_of_none i.1 h4 z⟩
  exact ⟨o, k.get D.pg D.np1.symm, Paired.mono (fun _ _ r => r.im im) D.pr, k.get D.wr D.np2.symm, Paired.mono (fun _ _ r => r.im k im) D.wp, ⟨e3, o3, n3⟩, e4, fun z => nb (.inr (.inr (.inl z.symm))), by
    rintro x (z | z | z | z)
    · exact D.ow _ (.inl z)
    · exact D.ow _ (.inr (.inl z))
    · exact D.ow _ (.inr (.inr (.inl z)))
    · rw [z]; exact o4⟩
def sp_Device_sync_log (c : Cl) : Sp := fun vs H Q E => ∃ p O d, vs = [.ref p] ∧ DevAt c H p O d ∧ Sml d ∧ spD c H p O (dSyncL d) (Q .non) E
theorem ok_Device_sync_log (T : Txt K mg c) : GM P w K mg base (L2.CX P w) 2 c.Device "sync_log" (sp_Device_sync_log c) := by
  obtain ⟨f, fd, F, gf, gi⟩ := T.f_Device_sync_log
  have tc_Device := T.cl_Device; have tn_Device_pages := T.n_Device_pages; have tn_Device_page_writes := T.n_Device_page_writes; have tn_Device_durable_log := T.n_Device_durable_log; have tn_Device_log_steps := T.n_Device_log_steps; have tn_Device_done := T.n_Device_done; have tn_Device_most := T.n_Device_most
  refine ⟨f, fd, ["self"], F.okX sc_Device_sync_log ?_ (fun cdv A outer s H vs Q E hr h => ?_), ⟨gf, gi, F.kp⟩, (F.binds (ps := ["self"]) fun _ _ _ _ _ _ us hl => match us, hl with | [_], _ => rfl)⟩
  · rintro vs H Q E ⟨_, _, _, rfl, _⟩
    rfl
  · obtain ⟨p, O0, d, rfl, hD, sm, k⟩ := h
    obtain ⟨O, dx, a1, a2, a3, a4, kvs, ws, eO, D, og⟩ := hD.opn
    have fr : ∀ {x}, H x = none → O x := fun h => by rw [eO]; exact .inr h
    have ho := D.o
    refine ⟨_, (pss_cons (ps_expr (pe_gm0 T.cl_Device (ok_Device_step T) (pv 0) (hr.mono (by decide)) (passE (E := E) rfl rfl rfl rfl)))
      (pss_cons (ps_fld (pv 0) (pe_gm0 T.cl_Device (ok_Device_log T) (pv 0) (hr.mono (by decide)) pass0S) rfl)
      (pss_one (ps_fld (pv 0) (pe_lst pa_nil) rfl)))), ?_⟩
    walk_at "cx"
    walk_at "rd"
    refine ⟨O, p, dx, a1, a2, a3, a4, kvs, ws, d, rfl, D, fun hc H1 D1 k1 => ?_, fun hc => k.no hc hD⟩
    have ho1 := D1.o
    walk_at "rd"
    refine ⟨p, _, _, rfl, D1.clo eO, sm, fun b H2 hb k2 hb2 => ?_⟩
    have D2 := D1.same k2
    have ho2 := D2.o
    have nbp : b ≠ p := fun z => D1.fresh hb (.inl z)
    walk_at "rd"
    intro H3 p3 k3
    have hb3 := k3.get hb2 nbp
    walk_at "rd"
    refine x_newL fun e H4 he k4 he4 => ?_
    have hb4 := k4.get hb3 id
    walk_at "rd"
    intro H5 p5 k5
    have nep : e ≠ p := fun z => by rw [z, p3] at he; cases he
    have nbe : b ≠ e := ne_of_none hb3 he
    have he2 : H2 e = none := k3.free he nep
    have k12 : Kp (F1 p) H H2 := k1.trans k2 fun _ z => z.elim
    have kk : Kp (F1 p) H2 H5 := (k3.trans k4 fun _ z => z.elim).trans k5 fun _ z => .inl z
    have q : DevA c O H5 p dx a1 a2 b e kvs ws { pages := d.pages, writes := d.writes, log := clog d, steps := [], done := d.done + 1, most := d.most } :=
      D2.newL (lg := clog d) (sl := []) he2 kk p5 (k5.get hb4 nbp) (k5.get he4 nep) (by
        rintro (z | z | z | z)
        · exact nbp z
        · exact D1.fresh hb (.inr (.inl z))
        · exact D1.fresh hb (.inr (.inr (.inl z)))
        · exact nbe z) (fr (k1.free hb nbp)) (fr (k12.free he2 nep))
    exact k.yes hc (q.clo eO) (Stp.nO (G := DevG p a1 a2 a4) ((k12.mono F1.g).trans kk fun _ z => .inl (.inl z)) og)
def sp_Device_durable_page (c : Cl) : Sp := fun vs H Q _ => ∃ p O d n, vs = [.ref p, .int n] ∧ DevAt c H p O d ∧ ∀ b H', H b = none → Kp F0 H H' → H' b = some (.lst ((dpg d n).map V.int)) → Q (.ref b) H'
--HOT Device.durable_page
theorem ok_Device_durable_page (T : Txt K mg c) : GM P w K mg base CX0 1 c.Device "durable_page" (sp_Device_durable_page c) := by
  obtain ⟨f, fd, F, gf, gi⟩ := T.f_Device_durable_page
  obtain ⟨_, mg_PAGE_SIZE⟩ := T.m_PAGE_SIZE
  have tc_Device := T.cl_Device; have tn_Device_pages := T.n_Device_pages; have tn_Device_page_writes := T.n_Device_page_writes; have tn_Device_durable_log := T.n_Device_durable_log; have tn_Device_log_steps := T.n_Device_log_steps; have tn_Device_done := T.n_Device_done; have tn_Device_most := T.n_Device_most
  refine ⟨f, fd, ["self", "number"], F.ok sc_Device_durable_page ?_ (fun cdv A outer s H vs Q E hr h => ?_), ⟨gf, gi, F.kp⟩, (F.binds (ps := ["self", "number"]) fun _ _ _ _ _ _ us hl => match us, hl with | [_, _], _ => rfl)⟩
  · rintro vs H Q E ⟨_, _, _, _, rfl, _⟩
    rfl
  · obtain ⟨p, O0, d, n, rfl, hD, k⟩ := h
    obtain ⟨O, dx, a1, a2, a3, a4, kvs, ws, eO, D, og⟩ := hD.opn
    have fr : ∀ {x}, H x = none → O x := fun h => by rw [eO]; exact .inr h
    have ho := D.o
    have hp := D.pg
    refine ⟨_, (pss_one (ps_ret (pe_callTy (r := rLstQ K) c_list (by rfl) T.z_list (by decide +kernel) (pa_cons (pe_dget2 (hu_of hr) (pe_fldK rfl (pv 0)) (pv 1) (pe_op op_rep (pe_lst (pa_cons pe_int pa_nil)) (pe_glob (v := .int 256) rfl mg_PAGE_SIZE ⟨_, rfl⟩)) ⟨rfl, rfl, rfl, rfl⟩) pa_nil)))), ?_⟩
    walk_at "cx"
    walk_at "rd"
    refine x_newL fun z1 H1 hz1 k1 hz11 => ?_
    walk_at "rd"
    refine x_rep hz11 (by decide) (by decide) fun z2 H2 hz2 k2 hz22 => ?_
    have D2 := (D.same k1).same k2
    have hp2 := D2.pg
    walk_at "rd"
    have ez : List.replicate (256 : Int).toNat (V.int 0) = zeros.map V.int := by unfold zeros; rw [List.map_replicate]; rfl
    rw [ez] at hz22
    have fin : ∀ {x : Addr} {ds : List Int}, H2 x = some (.lst (ds.map V.int)) → dpg d n = ds → rLstQ K [.ref x] H2 Q := fun {x ds} hx e => by
      refine x_lstL (SqL.of hx) fun b H3 hb k3 hb3 => ?_
      exact k b H3 (k1.free (k2.free hb id) id) ((k1.trans k2 fun _ z => z.elim).trans k3 fun _ z => z.elim) (by rw [e]; exact hb3)
    rcases get_pr RPg.key n D2.pr with ⟨e1, e2⟩ | ⟨v, ds, e1, e2, _, a, rfl, i⟩
    · rw [e1]
      exact fin hz22 (by unfold dpg; rw [e2]; rfl)
    · rw [e1]
      exact fin i.1 (by unfold dpg; rw [e2]; rfl)
--TOH
def sp_Device_page (c : Cl) : Sp := fun vs H Q _ => ∃ p O d n, vs = [.ref p, .int n] ∧ DevAt c H p O d ∧ ∀ b H', H b = none → Kp F0 H H' → H' b = some (.lst ((cpg d n).map V.int)) → Q (.ref b) H'
theorem prev {α β : Type} {R : α → β → Prop} : ∀ {l : List α} {m : List β}, Paired R l m → Paired R l.reverse m.reverse
  | _, _, .nil => .nil
  | _, _, .cons h t => by
    rw [List.reverse_cons, List.reverse_cons]
    exact (prev t).snoc h
theorem ok_Device_page (T : Txt K mg c) : GM P w K mg base CX0 2 c.Device "page" (sp_Device_page c) := by
  obtain ⟨f, fd, F, gf, gi⟩ := T.f_Device_page
  have tc_Device := T.cl_Device; have tn_Device_pages := T.n_Device_pages; have tn_Device_page_writes := T.n_Device_page_writes; have tn_Device_durable_log := T.n_Device_durable_log; have tn_Device_log_steps := T.n_Device_log_steps; have tn_Device_done := T.n_Device_done; have tn_Device_most := T.n_Device_most
  refine ⟨f, fd, ["self", "number"], F.ok sc_Device_page ?_ (fun cdv A outer s H vs Q E hr h => ?_), ⟨gf, gi, F.kp⟩, (F.binds (ps := ["self", "number"]) fun _ _ _ _ _ _ us hl => match us, hl with | [_, _], _ => rfl)⟩
  · rintro vs H Q E ⟨_, _, _, _, rfl, _⟩
    rfl
  · obtain ⟨p, O0, d, n, rfl, hD, k⟩ := h
    obtain ⟨O, dx, a1, a2, a3, a4, kvs, ws, eO, D, og⟩ := hD.opn
    have fr : ∀ {x}, H x = none → O x := fun h => by rw [eO]; exact .inr h
    have ho := D.o
    have hw := D.wr
    refine ⟨_, (pss_cons (ps_for PassesOwn.never rfl (pi_revK rfl (pi_reversed (by rfl) T.z_reversed (pa_cons (pe_fldK rfl (pv 0)) pa_nil))) (pg_kT rfl (pg_tup (n := 2) rfl (pgs_cons (pg_name (i := 2) sc_Device_page.nd rfl (Or.inl rfl)) (pgs_cons (pg_name (i := 3) sc_Device_page.nd rfl (Or.inl rfl)) pgs_nil)))) (pss_one (ps_if (pt_cmpR op_eq (pv 2) (pv 1) (nomark _)) (pss_one (ps_ret (pe_callTy (r := rLstQ K) c_list (by rfl) T.z_list (by decide +kernel) (pa_cons (pv 3) pa_nil)))) pss_nil)))
      (pss_one (ps_ret (pe_gm T.cl_Device (ok_Device_durable_page T) (pv 0) (hr.mono (by decide)) pass0S (pa_cons (pv 1) pa_nil))))), ?_⟩
    walk_at "cx"
    walk_at "rd"
    refine wfor Wk.rev (fun i σ H' => ∃ u v, σ = [some (.ref p), some (.int n), u, v] ∧ H = H' ∧ (d.writes.reverse.take i).find? (fun q => decide (q.1 = n)) = none)
      ⟨none, none, rfl, rfl, rfl⟩ (fun i σ H' ⟨_, _, _, e, _⟩ => by rw [← e]; exact SqL.of hw) ?_ ?_
    · rintro i x σ H2 ex ⟨u, v, rfl, rfl, hf⟩
      obtain ⟨q, eq, t, a, rfl, ht, hi⟩ := pget (prev D.wp) ex
      walk_at "rd"
      have tk : d.writes.reverse.take (i + 1) = d.writes.reverse.take i ++ [q] := by rw [List.take_succ, eq]; rfl
      refine ite_dec (fun e => ?_) fun e => ?_
      · walk_at "rd"
        refine x_lstL (SqL.of hi.1) fun b H3 hb k3 hb3 => ?_
        refine k b H3 hb k3 ?_
        have lt : i < d.writes.reverse.length := (List.getElem?_eq_some_iff.mp eq).1
        have e2 : d.writes.reverse.find? (fun q => decide (q.1 = n)) = some q := by
          rw [← List.take_append_drop (i + 1) d.writes.reverse, tk, List.find?_append, List.find?_append, hf]
          rw [List.find?_cons_of_pos (by exact decide_eq_true e)]; rfl
        unfold cpg
        rw [e2]
        exact hb3
      · refine ⟨_, _, rfl, rfl, ?_⟩
        rw [tk, List.find?_append, hf, List.find?_cons_of_neg (by simpa using e)]; rfl
    · rintro σ H2 ⟨u, v, rfl, rfl, hf⟩
      rw [List.length_reverse, show ws.length = d.writes.reverse.length by rw [List.length_reverse]; exact D.wp.length, List.take_length] at hf
      walk_at "rd"
      refine ⟨p, _, d, n, rfl, hD, fun b H3 hb k3 hb3 => k b H3 hb k3 ?_⟩
      unfold cpg
      rw [hf]
      exact hb3
def sp_Device_steps (c : Cl) : Sp := fun vs H Q _ => ∃ p O d, vs = [.ref p] ∧ DevAt c H p O d ∧ Q (.int d.done) H
--HOT Device.steps
theorem ok_Device_steps (T : Txt K mg c) : GM P w K mg base CX0 1 c.Device "steps" (sp_Device_steps c) := by
  obtain ⟨f, fd, F, gf, gi⟩ := T.f_Device_steps
  have tc_Device := T.cl_Device; have tn_Device_pages := T.n_Device_pages; have tn_Device_page_writes := T.n_Device_page_writes; have tn_Device_durable_log := T.n_Device_durable_log; have tn_Device_log_steps := T.n_Device_log_steps; have tn_Device_done := T.n_Device_done; have tn_Device_most := T.n_Device_most
  refine ⟨f, fd, ["self"], F.ok sc_Device_steps ?_ (fun cdv A outer s H vs Q E hr h => ?_), ⟨gf, gi, F.kp⟩, (F.binds (ps := ["self"]) fun _ _ _ _ _ _ us hl => match us, hl with | [_], _ => rfl)⟩
  · rintro vs H Q E ⟨_, _, _, rfl, _⟩
    rfl
  · obtain ⟨p, O0, d, rfl, hD, k⟩ := h
    obtain ⟨O, dx, a1, a2, a3, a4, kvs, ws, eO, D, og⟩ := hD.opn
    have fr : ∀ {x}, H x = none → O x := fun h => by rw [eO]; exact .inr h
    have ho := D.o
    refine ⟨_, (pss_one (ps_ret (pe_fldK rfl (pv 0)))), ?_⟩
    walk_at "cx"
    walk_at "rd"
    exact k
--TOH
def sp_Device_pending (c : Cl) : Sp := fun vs H Q _ => ∃ p O d, vs = [.ref p] ∧ DevAt c H p O d ∧ ∀ b H', Kp F0 H H' → H' b = some (.tup [.int d.writes.length, .int d.steps.length]) → Q (.ref b) H'
--HOT Device.pending
theorem ok_Device_pending (T : Txt K mg c) : GM P w K mg base CX0 1 c.Device "pending" (sp_Device_pending c) := by
  obtain ⟨f, fd, F, gf, gi⟩ := T.f_Device_pending
  have tc_Device := T.cl_Device; have tn_Device_pages := T.n_Device_pages; have tn_Device_page_writes := T.n_Device_page_writes; have tn_Device_durable_log := T.n_Device_durable_log; have tn_Device_log_steps := T.n_Device_log_steps; have tn_Device_done := T.n_Device_done; have tn_Device_most := T.n_Device_most
  refine ⟨f, fd, ["self"], F.ok sc_Device_pending ?_ (fun cdv A outer s H vs Q E hr h => ?_), ⟨gf, gi, F.kp⟩, (F.binds (ps := ["self"]) fun _ _ _ _ _ _ us hl => match us, hl with | [_], _ => rfl)⟩
  · rintro vs H Q E ⟨_, _, _, rfl, _⟩
    rfl
  · obtain ⟨p, O0, d, rfl, hD, k⟩ := h
    obtain ⟨O, dx, a1, a2, a3, a4, kvs, ws, eO, D, og⟩ := hD.opn
    have fr : ∀ {x}, H x = none → O x := fun h => by rw [eO]; exact .inr h
    have ho := D.o
    have hw := D.wr
    have hs := D.st
    refine ⟨_, (pss_one (ps_ret (pe_tup (pa_cons (pe_callB (r := rLenQ K) c_len (by rfl) T.z_len PySem.boot_len (pa_cons (pe_fldK rfl (pv 0)) pa_nil)) (pa_cons (pe_callB (r := rLenQ K) c_len (by rfl) T.z_len PySem.boot_len (pa_cons (pe_fldK rfl (pv 0)) pa_nil)) pa_nil))))), ?_⟩
    walk_at "cx"
    walk_at "rd"
    rw [D.wp.length, List.length_map]
    refine x_newT fun b H1 hb k1 hb1 => ?_
    exact k b H1 k1 hb1
--TOH
end
/-! ### the pager -/
structure PgS where
  dev : DevS
  com : List (Int × List Int)
  dir : List (Int × List Int)
def gpg (s : PgS) (n : Int) : List Int := match aget s.dir n with
  | some d => d
  | none => match aget s.com n with
    | some d => d
    | none => cpg s.dev n
def pwr (n : Int) (ds : List Int) (s : PgS) : PgS := { s with dir := aput s.dir n ds }
def fld (s : PgS) (k : Nat) : Int := rn (((gpg s 0).drop (4 * k)).take 4)
def spl (ds : List Int) (k : Nat) (v : Int) : List Int := ds.take (4 * k) ++ wn 4 v ++ ds.drop (4 * (k + 1))
def setf (k : Nat) (v : Int) (s : PgS) : PgS := pwr 0 (spl (gpg s 0) k v) s
def cnth (s : PgS) : PgS := if fld s 6 = 0 then setf 6 1 s else s
def palloc (s : PgS) : PgS × Int := if fld s 7 = 0 then (pwr (fld s 6) zeros (setf 6 (fld s 6 + 1) s), fld s 6) else (pwr (fld s 7) zeros (setf 7 (rn ((gpg s (fld s 7)).take 4)) s), fld s 7)
def prel (n : Int) (s : PgS) : PgS := setf 7 n (pwr n (wn 4 (fld s 7) ++ List.replicate 252 0) s)
def proll (s : PgS) : PgS := cnth { s with dir := [] }
def PagG (p a1 a2 : Addr) (Od : Addr → Prop) : Addr → Prop := fun b => b = p ∨ b = a1 ∨ b = a2 ∨ Od b
structure PagA (c : Cl) (O Od : Addr → Prop) (H : Hp) (p q dx a1 a2 : Addr) (k1 k2 : List (Key × V)) (s : PgS) : Prop where
  o : H p = some (.ins c.Pager dx (F_Pager (.ref q) (.ref a1) (.ref a2)))
  dv : DevAt c H q Od s.dev
  h1 : H a1 = some (.dK k1)
  p1 : Paired (RPg H O (PagG p a1 a2 Od)) k1 s.com
  h2 : H a2 = some (.dK k2)
  p2 : Paired (RPg H O (PagG p a1 a2 Od)) k2 s.dir
  ne : a1 ≠ a2
  np : ¬ Od p
  n1 : ¬ Od a1
  n2 : ¬ Od a2
  ow : ∀ b, PagG p a1 a2 Od b → O b
/-- a pager at p of the device at q: it owns O, its device Od -/
def PagAt (c : Cl) (H : Hp) (p q : Addr) (O Od : Addr → Prop) (s : PgS) : Prop := (∃ dx a1 a2 k1 k2, PagA c O Od H p q dx a1 a2 k1 k2 s) ∧ ∀ b, O b → ∃ o, H b = some o
section
variable {c : Cl} {O O0 O' Od Od' F : Addr → Prop} {H H' : Hp} {p q dx a1 a2 b : Addr} {k1 k2 : List (Key × V)} {s : PgS}
theorem PagA.n1p (h : PagA c O Od H p q dx a1 a2 k1 k2 s) : p ≠ a1 := ne_of h.o h.h1 (by intro z; cases z)
theorem PagA.n2p (h : PagA c O Od H p q dx a1 a2 k1 k2 s) : p ≠ a2 := ne_of h.o h.h2 (by intro z; cases z)
theorem PagA.trk (D : PagA c O Od H p q dx a1 a2 k1 k2 s) (g : PagG p a1 a2 Od b) : ∃ o, H b = some o := by
  rcases g with rfl | rfl | rfl | g
  · exact ⟨_, D.o⟩
  · exact ⟨_, D.h1⟩
  · exact ⟨_, D.h2⟩
  · exact D.dv.2 b g
theorem PagA.fresh (D : PagA c O Od H p q dx a1 a2 k1 k2 s) (hb : H b = none) : ¬ PagG p a1 a2 Od b := fun z => by
  obtain ⟨o, ho⟩ := D.trk z
  rw [hb] at ho; cases ho
theorem PagA.off (k : Kp F H H') (h : PagA c O Od H p q dx a1 a2 k1 k2 s) (n : ∀ b, F b → ¬ O b) : PagA c O Od H' p q dx a1 a2 k1 k2 s := by
  have g : ∀ b, PagG p a1 a2 Od b → ¬ F b := fun b z f => n b f (h.ow b z)
  have im : ∀ a ds, Im H O (PagG p a1 a2 Od) a ds → Im H' O (PagG p a1 a2 Od) a ds := fun a ds i => ⟨k.get i.1 fun z => n _ z i.2.1, i.2⟩
  exact ⟨k.get h.o (g _ (.inl rfl)), h.dv.off k fun b z o => g b (.inr (.inr (.inr o))) z, k.get h.h1 (g _ (.inr (.inl rfl))), h.p1.mono fun _ _ r => r.im im, k.get h.h2 (g _ (.inr (.inr (.inl rfl)))), h.p2.mono fun _ _ r => r.im im, h.ne, h.np, h.n1, h.n2, h.ow⟩
theorem PagA.same (k : Kp F0 H H') (h : PagA c O Od H p q dx a1 a2 k1 k2 s) : PagA c O Od H' p q dx a1 a2 k1 k2 s := h.off k fun _ z => z.elim
theorem PagA.own (h : PagA c O Od H p q dx a1 a2 k1 k2 s) (n : ∀ b, O b → O' b) : PagA c O' Od H p q dx a1 a2 k1 k2 s :=
  ⟨h.o, h.dv, h.h1, h.p1.mono fun _ _ r => r.im fun _ _ i => ⟨i.1, n _ i.2.1, i.2.2⟩, h.h2, h.p2.mono fun _ _ r => r.im fun _ _ i => ⟨i.1, n _ i.2.1, i.2.2⟩, h.ne, h.np, h.n1, h.n2, fun b z => n _ (h.ow b z)⟩
theorem PagAt.opn (h : PagAt c H p q O0 Od s) : ∃ (O : Addr → Prop) (dx a1 a2 : Addr) (k1 k2 : List (Key × V)), O = (fun x => O0 x ∨ H x = none) ∧ PagA c O Od H p q dx a1 a2 k1 k2 s ∧ ∀ b, PagG p a1 a2 Od b → O0 b := by
  obtain ⟨⟨dx, a1, a2, k1, k2, D⟩, _⟩ := h
  exact ⟨_, dx, a1, a2, k1, k2, rfl, D.own fun _ z => .inl z, D.ow⟩
theorem PagA.clo (D : PagA c O Od H' p q dx a1 a2 k1 k2 s) (e : O = fun x => O0 x ∨ H x = none) : PagAt c H' p q (nO O0 H H') Od s := by
  subst e
  refine ⟨⟨dx, a1, a2, k1, k2, D.o, D.dv, D.h1, D.p1.mono fun _ _ r => r.im fun a ds i => ⟨i.1, ⟨i.2.1, _, i.1⟩, i.2.2⟩, D.h2, D.p2.mono fun _ _ r => r.im fun a ds i => ⟨i.1, ⟨i.2.1, _, i.1⟩, i.2.2⟩, D.ne, D.np, D.n1, D.n2, fun b z => ⟨D.ow b z, D.trk z⟩⟩, fun b z => z.2⟩
theorem PagAt.off (k : Kp F H H') (h : PagAt c H p q O Od s) (n : ∀ b, F b → ¬ O b) : PagAt c H' p q O Od s := by
  obtain ⟨⟨dx, a1, a2, k1, k2, D⟩, t⟩ := h
  refine ⟨⟨dx, a1, a2, k1, k2, D.off k n⟩, fun b z => ?_⟩
  obtain ⟨o, ho⟩ := t b z
  exact ⟨o, k.get ho fun y => n b y z⟩
theorem PagAt.same (k : Kp F0 H H') (h : PagAt c H p q O Od s) : PagAt c H' p q O Od s := h.off k fun _ z => z.elim
theorem PagAt.fresh (h : PagAt c H p q O Od s) (hb : H b = none) : ¬ O b := fun z => by
  obtain ⟨o, ho⟩ := h.2 b z
  rw [hb] at ho; cases ho
theorem PagAt.dv (h : PagAt c H p q O Od s) : DevAt c H q Od s.dev ∧ ∀ b, Od b → O b := by
  obtain ⟨⟨dx, a1, a2, k1, k2, D⟩, t⟩ := h
  exact ⟨D.dv, fun b z => D.ow b (.inr (.inr (.inr z)))⟩
/-- a page put into the dirty ones -/
theorem PagA.put2 {l : Addr} {n : Int} {ds : List Int} (D : PagA c O Od H p q dx a1 a2 k1 k2 s) (i : Im H O (PagG p a1 a2 Od) l ds) (k : Kp (F1 a2) H H') (h : H' a2 = some (.dK (putK k2 (.inl n) (.ref l)))) :
    PagA c O Od H' p q dx a1 a2 k1 (putK k2 (.inl n) (.ref l)) (pwr n ds s) := by
  have sub : ∀ x, F1 a2 x → PagG p a1 a2 Od x := fun x z => .inr (.inr (.inl z))
  exact ⟨k.get D.o D.n2p, D.dv.off k fun b z o => D.n2 (by rw [← z]; exact o), k.get D.h1 D.ne, D.p1.mono fun _ _ r => r.kp k sub, h, put_pr RPg.key ⟨rfl, l, rfl, i.kp k sub⟩ (D.p2.mono fun _ _ r => r.kp k sub), D.ne, D.np, D.n1, D.n2, D.ow⟩
theorem PagA.put1 {l : Addr} {n : Int} {ds : List Int} (D : PagA c O Od H p q dx a1 a2 k1 k2 s) (i : Im H O (PagG p a1 a2 Od) l ds) (k : Kp (F1 a1) H H') (h : H' a1 = some (.dK (putK k1 (.inl n) (.ref l)))) :
    PagA c O Od H' p q dx a1 a2 (putK k1 (.inl n) (.ref l)) k2 { s with com := aput s.com n ds } := by
  have sub : ∀ x, F1 a1 x → PagG p a1 a2 Od x := fun x z => .inr (.inl z)
  exact ⟨k.get D.o D.n1p, D.dv.off k fun b z o => D.n1 (by rw [← z]; exact o), h, put_pr RPg.key ⟨rfl, l, rfl, i.kp k sub⟩ (D.p1.mono fun _ _ r => r.kp k sub), k.get D.h2 D.ne.symm, D.p2.mono fun _ _ r => r.kp k sub, D.ne, D.np, D.n1, D.n2, D.ow⟩
/-- the device steps -/
theorem PagA.dev {d' : DevS} (D : PagA c O Od H p q dx a1 a2 k1 k2 s) (V : DevAt c H' q Od' d') (t : Stp Od Od' H H') (fr : ∀ b, H b = none → O b) : PagA c O Od' H' p q dx a1 a2 k1 k2 { s with dev := d' } := by
  have im : ∀ a ds, Im H O (PagG p a1 a2 Od) a ds → Im H' O (PagG p a1 a2 Od') a ds := fun a ds i => ⟨t.kp.get i.1 fun z => i.2.2 (.inr (.inr (.inr z))), i.2.1, by
    rintro (z | z | z | z)
    · exact i.2.2 (.inl z)
    · exact i.2.2 (.inr (.inl z))
    · exact i.2.2 (.inr (.inr (.inl z)))
    · exact t.kp0 i.1 (fun z => i.2.2 (.inr (.inr (.inr z)))) z⟩
  refine ⟨t.kp.get D.o D.np, V, t.kp.get D.h1 D.n1, D.p1.mono fun _ _ r => r.im im, t.kp.get D.h2 D.n2, D.p2.mono fun _ _ r => r.im im, D.ne, t.kp0 D.o D.np, t.kp0 D.h1 D.n1, t.kp0 D.h2 D.n2, ?_⟩
  rintro b (z | z | z | z)
  · exact D.ow b (.inl z)
  · exact D.ow b (.inr (.inl z))
  · exact D.ow b (.inr (.inr (.inl z)))
  · rcases t.gr b z with y | y
    · exact D.ow b (.inr (.inr (.inr y)))
    · exact fr b y
/-- a new dict of dirty ones -/
theorem PagA.new2 {e : Addr} (D : PagA c O Od H p q dx a1 a2 k1 k2 s) (he : H e = none) (k : Kp (F1 p) H H') (o : H' p = some (.ins c.Pager dx (F_Pager (.ref q) (.ref a1) (.ref e)))) (h : H' e = some (.dK [])) (oe : O e) : PagA c O Od H' p q dx a1 e k1 [] { s with dir := [] } := by
  have nb := D.fresh he
  have im : ∀ a ds, Im H O (PagG p a1 a2 Od) a ds → Im H' O (PagG p a1 e Od) a ds := fun a ds i => ⟨k.get i.1 fun z => i.2.2 (.inl z), i.2.1, by
    rintro (z | z | z | z)
    · exact i.2.2 (.inl z)
    · exact i.2.2 (.inr (.inl z))
    · exact ne_of_none i.1 he z
    · exact i.2.2 (.inr (.inr (.inr z)))⟩
  exact ⟨o, D.dv.off k fun b z y => D.np (by rw [← z]; exact y), k.get D.h1 D.n1p.symm, D.p1.mono fun _ _ r => r.im im, h, .nil, fun z => nb (.inr (.inl z.symm)), D.np, D.n1, fun z => nb (.inr (.inr (.inr z))), by
    rintro b (z | z | z | z)
    · exact D.ow b (.inl z)
    · exact D.ow b (.inr (.inl z))
    · rw [z]; exact oe
    · exact D.ow b (.inr (.inr (.inr z)))⟩
theorem PagA.new1 {e : Addr} (D : PagA c O Od H p q dx a1 a2 k1 k2 s) (he : H e = none) (k : Kp (F1 p) H H') (o : H' p = some (.ins c.Pager dx (F_Pager (.ref q) (.ref e) (.ref a2)))) (h : H' e = some (.dK [])) (oe : O e) : PagA c O Od H' p q dx e a2 [] k2 { s with com := [] } := by
  have nb := D.fresh he
  have im : ∀ a ds, Im H O (PagG p a1 a2 Od) a ds → Im H' O (PagG p e a2 Od) a ds := fun a ds i => ⟨k.get i.1 fun z => i.2.2 (.inl z), i.2.1, by
    rintro (z | z | z | z)
    · exact i.2.2 (.inl z)
    · exact ne_of_none i.1 he z
    · exact i.2.2 (.inr (.inr (.inl z)))
    · exact i.2.2 (.inr (.inr (.inr z)))⟩
  exact ⟨o, D.dv.off k fun b z y => D.np (by rw [← z]; exact y), h, .nil, k.get D.h2 D.n2p.symm, D.p2.mono fun _ _ r => r.im im, fun z => nb (.inr (.inr (.inl z))), D.np, fun z => nb (.inr (.inr (.inr z))), D.n2, by
    rintro b (z | z | z | z)
    · exact D.ow b (.inl z)
    · rw [z]; exact oe
    · exact D.ow b (.inr (.inr (.inl z)))
    · exact D.ow b (.inr (.inr (.inr z)))⟩
end
/-- sizes of a pager's state -/
def SmlP (s : PgS) : Prop := s.com.length ≤ 1000000 ∧ s.dir.length ≤ 1000000 ∧ Sz s.com ∧ Sz s.dir
section
variable {P : Program} {w : World} {K : PySem.W.Frag} {mg : Str → Option Value} {base : Heap} {c : Cl}
def sp_Pager_read (c : Cl) : Sp := fun vs H Q _ => ∃ p q O Od s n, vs = [.ref p, .int n] ∧ PagAt c H p q O Od s ∧ ∀ b H', H b = none → Kp F0 H H' → H' b = some (.lst ((gpg s n).map V.int)) → Q (.ref b) H'
theorem ok_Pager_read (T : Txt K mg c) : GM P w K mg base CX0 3 c.Pager "read" (sp_Pager_read c) := by
  obtain ⟨f, fd, F, gf, gi⟩ := T.f_Pager_read
  have tc_Device := T.cl_Device; have tn_Device_pages := T.n_Device_pages; have tn_Device_page_writes := T.n_Device_page_writes; have tn_Device_durable_log := T.n_Device_durable_log; have tn_Device_log_steps := T.n_Device_log_steps; have tn_Device_done := T.n_Device_done; have tn_Device_most := T.n_Device_most
  have tc_Pager := T.cl_Pager; have tn_Pager_device := T.n_Pager_device; have tn_Pager_committed := T.n_Pager_committed; have tn_Pager_dirty := T.n_Pager_dirty
  refine ⟨f, fd, ["self", "number"], F.ok sc_Pager_read ?_ (fun cdv A outer s H vs Q E hr h => ?_), ⟨gf, gi, F.kp⟩, (F.binds (ps := ["self", "number"]) fun _ _ _ _ _ _ us hl => match us, hl with | [_, _], _ => rfl)⟩
  · rintro vs H Q E ⟨_, _, _, _, _, _, rfl, _⟩
    rfl
  · obtain ⟨p, q, O0, Od, s, n, rfl, ⟨⟨dx, a1, a2, k1, k2, D⟩, _⟩, k⟩ := h
    obtain ⟨⟨dx2, b1, b2, b3, b4, kvs, ws, DD⟩, _⟩ := id D.dv
    have ho := D.o
    have h1 := D.h1
    have h2 := D.h2
    have hq := DD.o
    refine ⟨_, (pss_cons (ps_if (pt_cmp (pc_din (hu_of hr) (pv 1) (pe_fldK rfl (pv 0)))) (pss_one (ps_ret (pe_callTy (r := rLstQ K) c_list (by rfl) T.z_list (by decide +kernel) (pa_cons (pe_dget (hu_of hr) (pe_fldK rfl (pv 0)) (pv 1) (fun _ _ => rfl)) pa_nil)))) pss_nil)
      (pss_cons (ps_if (pt_cmp (pc_din (hu_of hr) (pv 1) (pe_fldK rfl (pv 0)))) (pss_one (ps_ret (pe_callTy (r := rLstQ K) c_list (by rfl) T.z_list (by decide +kernel) (pa_cons (pe_dget (hu_of hr) (pe_fldK rfl (pv 0)) (pv 1) (fun _ _ => rfl)) pa_nil)))) pss_nil)
      (pss_one (ps_ret (pe_gm T.cl_Device (ok_Device_page T) (pe_fldK rfl (pv 0)) (hr.mono (by decide)) pass0S (pa_cons (pv 1) pa_nil)))))), ?_⟩
    walk_at "cx"
    walk_at "rd"
    rcases get_pr RPg.key n D.p2 with ⟨e1, e2⟩ | ⟨v, ds, e1, e2, _, a, rfl, i⟩
    · rw [e1]
      refine if_no ?_
      walk_at "rd"
      rcases get_pr RPg.key n D.p1 with ⟨e3, e4⟩ | ⟨v, ds, e3, e4, _, a, rfl, i⟩
      · rw [e3]
        refine if_no ?_
        walk_at "rd"
        refine ⟨q, Od, s.dev, n, rfl, D.dv, fun b H' hb k' h' => k b H' hb k' ?_⟩
        rw [h']; unfold gpg; rw [e2, e4]
      · rw [e3]
        refine if_so ?_
        walk_at "rd"
        refine x_dgI (.inl h1) e3 ?_
        walk_at "rd"
        refine x_lstL (SqL.of i.1) fun b H' hb k' h' => k b H' hb k' ?_
        rw [h']; unfold gpg; rw [e2, e4]
    · rw [e1]
      refine if_so ?_
      walk_at "rd"
      refine x_dgI (.inl h2) e1 ?_
      walk_at "rd"
      refine x_lstL (SqL.of i.1) fun b H' hb k' h' => k b H' hb k' ?_
      rw [h']; unfold gpg; rw [e2]
def sp_Pager_write (c : Cl) (K : PySem.W.Frag) : Sp := fun vs H Q _ => ∃ p q O Od s n l ds, vs = [.ref p, .int n, .ref l] ∧ PagAt c H p q O Od s ∧ SqL K H l (ds.map V.int) ∧ s.dir.length ≤ 1000000 ∧ ∀ H' O', PagAt c H' p q O' Od (pwr n ds s) → Stp O O' H H' → Q .non H'
theorem ok_Pager_write (T : Txt K mg c) : GM P w K mg base CX0 1 c.Pager "write" (sp_Pager_write c K) := by
  obtain ⟨f, fd, F, gf, gi⟩ := T.f_Pager_write
  have tc_Pager := T.cl_Pager; have tn_Pager_device := T.n_Pager_device; have tn_Pager_committed := T.n_Pager_committed; have tn_Pager_dirty := T.n_Pager_dirty
  refine ⟨f, fd, ["self", "number", "data"], F.ok sc_Pager_write ?_ (fun cdv A outer s H vs Q E hr h => ?_), ⟨gf, gi, F.kp⟩, (F.binds (ps := ["self", "number", "data"]) fun _ _ _ _ _ _ us hl => match us, hl with | [_, _, _], _ => rfl)⟩
  · rintro vs H Q E ⟨_, _, _, _, _, _, _, _, rfl, _⟩
    rfl
  · obtain ⟨p, q, O0, Od, s, n, l, ds, rfl, hP, hl, sm, k⟩ := h
    obtain ⟨O, dx, a1, a2, k1, k2, eO, D, og⟩ := hP.opn
    refine ⟨_, (pss_one (ps_dput (hu_of hr) (pe_fldK rfl (pv 0)) (pv 1) (pe_callTy (r := rLstQ K) c_list (by rfl) T.z_list (by decide +kernel) (pa_cons (pv 2) pa_nil)) rfl)), ?_⟩
    walk_at "cx"
    walk_at "rd"
    refine x_lstL hl fun b H1 hb kk hb1 => ?_
    have D1 := D.same kk
    have ho := D1.o
    have h2 := D1.h2
    have lk : k2.length = s.dir.length := D.p2.length
    walk_at "rd"
    refine x_dpI h2 (by omega) fun H2 e2 k2' => ?_
    have D2 := D1.put2 (ds := ds) ⟨hb1, by rw [eO]; exact .inr hb, D.fresh hb⟩ k2' e2
    exact k H2 _ (D2.clo eO) (Stp.nO (G := PagG p a1 a2 Od) ((kk.mono fun _ z => z.elim).trans k2' fun x z => .inl (.inr (.inr (.inl z)))) og)
def sp_Pager_field (c : Cl) : Sp := fun vs H Q _ => ∃ (p q : Addr) (O Od : Addr → Prop) (s : PgS) (k : Nat), vs = [.ref p, .int k] ∧ k ≤ 1000 ∧ PagAt c H p q O Od s ∧ ∀ H', Kp F0 H H' → Q (.int (fld s k)) H'
theorem ok_Pager_field (T : Txt K mg c) : GM P w K mg base CX0 4 c.Pager "field" (sp_Pager_field c) := by
  obtain ⟨f, fd, F, gf, gi⟩ := T.f_Pager_field
  obtain ⟨_, mg_FIELD_SIZE⟩ := T.m_FIELD_SIZE
  have tc_Pager := T.cl_Pager; have tn_Pager_device := T.n_Pager_device; have tn_Pager_committed := T.n_Pager_committed; have tn_Pager_dirty := T.n_Pager_dirty
  refine ⟨f, fd, ["self", "k"], F.ok sc_Pager_field ?_ (fun cdv A outer s H vs Q E hr h => ?_), ⟨gf, gi, F.kp⟩, (F.binds (ps := ["self", "k"]) fun _ _ _ _ _ _ us hl => match us, hl with | [_, _], _ => rfl)⟩
  · rintro vs H Q E ⟨_, _, _, _, _, _, rfl, _⟩
    rfl
  · obtain ⟨p, q, O0, Od, s, n, rfl, hn, hP, k⟩ := h
    obtain ⟨⟨dx, a1, a2, k1, k2, D⟩, _⟩ := id hP
    have ho := D.o
    refine ⟨_, (pss_one (ps_ret (pe_g (ok_read_number T) (hr.mono (by decide)) pass0S (pa_cons (pe_gm T.cl_Pager (ok_Pager_read T) (pv 0) (hr.mono (by decide)) pass0S (pa_cons pe_int pa_nil)) (pa_cons (pe_op op_mul (pe_glob (v := .int 4) rfl mg_FIELD_SIZE ⟨_, rfl⟩) (pv 1)) (pa_cons (pe_glob (v := .int 4) rfl mg_FIELD_SIZE ⟨_, rfl⟩) pa_nil)))))), ?_⟩
    walk_at "cx"
    walk_at "rd"
    refine ⟨p, q, O0, Od, s, 0, rfl, hP, fun b H1 hb k1 e1 => ?_⟩
    walk_at "rd"
    refine ⟨b, gpg s 0, 4 * n, 4, by simp, SqL.of e1, fun H2 k2 => ?_⟩
    exact k H2 (k1.trans k2 fun _ z => z.elim)
def sp_Pager_set_field (c : Cl) : Sp := fun vs H Q _ => ∃ (p q : Addr) (O Od : Addr → Prop) (s : PgS) (k : Nat) (v : Int), vs = [.ref p, .int k, .int v] ∧ PagAt c H p q O Od s ∧ s.dir.length ≤ 1000000 ∧ 4 * (k + 1) ≤ (gpg s 0).length ∧ (gpg s 0).length ≤ 1000000 ∧ ∀ H' O', PagAt c H' p q O' Od (setf k v s) → Stp O O' H H' → Q .non H'
theorem ok_Pager_set_field (T : Txt K mg c) : GM P w K mg base CX0 4 c.Pager "set_field" (sp_Pager_set_field c) := by
  obtain ⟨f, fd, F, gf, gi⟩ := T.f_Pager_set_field
  obtain ⟨_, mg_FIELD_SIZE⟩ := T.m_FIELD_SIZE
  have tc_Pager := T.cl_Pager; have tn_Pager_device := T.n_Pager_device; have tn_Pager_committed := T.n_Pager_committed; have tn_Pager_dirty := T.n_Pager_dirty
  refine ⟨f, fd, ["self", "k", "number"], F.ok sc_Pager_set_field ?_ (fun cdv A outer s H vs Q E hr h => ?_), ⟨gf, gi, F.kp⟩, (F.binds (ps := ["self", "k", "number"]) fun _ _ _ _ _ _ us hl => match us, hl with | [_, _, _], _ => rfl)⟩
  · rintro vs H Q E ⟨_, _, _, _, _, _, _, rfl, _⟩
    rfl
  · obtain ⟨p, q, O0, Od, s, n, v, rfl, hP, sm, hl, hz, k⟩ := h
    obtain ⟨⟨dx, a1, a2, k1, k2, D⟩, _⟩ := id hP
    have ho := D.o
    refine ⟨_, (pss_cons (ps_set (i := 3) sc_Pager_set_field.nd rfl (Or.inl rfl) (pe_gm T.cl_Pager (ok_Pager_read T) (pv 0) (hr.mono (by decide)) pass0S (pa_cons pe_int pa_nil)))
      (pss_cons (ps_asg (pe_g (ok_write_number T) (hr.mono (by decide)) pass0S (pa_cons (pe_glob (v := .int 4) rfl mg_FIELD_SIZE ⟨_, rfl⟩) (pa_cons (pv 2) pa_nil))) (pg_slS (pv 3) (pe_op op_mul (pe_glob (v := .int 4) rfl mg_FIELD_SIZE ⟨_, rfl⟩) (pv 1)) (pe_op op_mul (pe_glob (v := .int 4) rfl mg_FIELD_SIZE ⟨_, rfl⟩) (pe_op op_add (pv 1) pe_int))))
      (pss_one (ps_expr (pe_gm T.cl_Pager (ok_Pager_write T) (pv 0) (hr.mono (by decide)) pass0S (pa_cons pe_int (pa_cons (pv 3) pa_nil))))))), ?_⟩
    walk_at "cx"
    walk_at "rd"
    refine ⟨p, q, O0, Od, s, 0, rfl, hP, fun b H1 hb k1' e1 => ?_⟩
    walk_at "rd"
    refine ⟨4, v, rfl, by decide, fun b2 H2 hb2 k2 e2 => ?_⟩
    walk_at "rd"
    refine x_gsl ?_
    walk_at "rd"
    have nbb : b ≠ b2 := ne_of_none e1 hb2
    refine x_slS (k2.get e1 id) e2 nbb (by omega) (by omega) (by rw [List.length_map]; omega) (by rw [List.length_map, List.length_map, wn_len, sizeLine_eq]; omega) fun H3 e3 k3 => ?_
    have e3' : H3 b = some (.lst ((spl (gpg s 0) n v).map V.int)) := by
      rw [e3]
      unfold spl
      rw [show (4 * (n : Int)).toNat = 4 * n by omega, show (4 * ((n : Int) + 1)).toNat = 4 * (n + 1) by omega]
      simp only [List.map_append, List.map_take, List.map_drop]
    have k03 : Kp F0 H H3 := (k1'.trans k2 fun _ z => z.elim).trans k3 fun x z => .inr (by rw [z]; exact hb)
    have ho3 := k03.get ho id
    walk_at "rd"
    refine ⟨p, q, O0, Od, s, 0, b, _, rfl, hP.same k03, SqL.of e3', sm, fun H' O' P' s' => k H' O' P' ((Stp.pure k03).trans s')⟩
/-! what the page dicts hold -/
theorem aget_put_eq (l : List (Int × List Int)) (n : Int) (v : List Int) : aget (aput l n v) n = some v := by
  unfold aget aput
  split
  next h =>
    rw [List.find?_map]
    have e : ((fun q : Int × List Int => decide (q.1 = n)) ∘ fun q => if q.1 = n then (q.1, v) else q) = fun q => decide (q.1 = n) := by
      funext q; show decide ((if q.1 = n then (q.1, v) else q).1 = n) = _; split <;> rfl
    rw [e]
    cases z : l.find? fun q => decide (q.1 = n) with
    | none =>
      rw [List.find?_eq_none] at z
      rw [List.any_eq_true] at h
      obtain ⟨x, hx, hy⟩ := h
      exact absurd hy (z x hx)
    | some q =>
      have := List.find?_some z
      simp only [decide_eq_true_eq] at this
      simp [this]
  next h =>
    have z : l.find? (fun q => decide (q.1 = n)) = none := by
      rw [List.find?_eq_none]; intro x hx hy
      exact h (List.any_eq_true.mpr ⟨x, hx, hy⟩)
    rw [List.find?_append, z]; simp
theorem aget_put_ne (l : List (Int × List Int)) {n m : Int} (v : List Int) (h : m ≠ n) : aget (aput l n v) m = aget l m := by
  unfold aget aput
  split
  · rw [List.find?_map]
    have e : ((fun q : Int × List Int => decide (q.1 = m)) ∘ fun q => if q.1 = n then (q.1, v) else q) = fun q => decide (q.1 = m) := by
      funext q; show decide ((if q.1 = n then (q.1, v) else q).1 = m) = _; split <;> rfl
    rw [e]
    cases z : l.find? fun q => decide (q.1 = m) with
    | none => rfl
    | some q =>
      have := List.find?_some z
      simp only [decide_eq_true_eq] at this
      have q2 : q.1 ≠ n := fun y => h (this.symm.trans y)
      simp [q2]
  · rw [List.find?_append]
    have : ((n, v) :: []).find? (fun q : Int × List Int => decide (q.1 = m)) = none := by simp [h.symm]
    rw [this, Option.or_none]
theorem gpg_eq (s : PgS) (n : Int) (ds : List Int) : gpg (pwr n ds s) n = ds := by unfold gpg pwr; rw [aget_put_eq]
theorem gpg_ne (s : PgS) {n m : Int} (ds : List Int) (h : m ≠ n) : gpg (pwr n ds s) m = gpg s m := by unfold gpg pwr; rw [aget_put_ne _ _ h]
theorem pwr_len (s : PgS) (n : Int) (ds : List Int) : (pwr n ds s).dir.length ≤ s.dir.length + 1 := aput_len _ _ _
theorem spl_len {ds : List Int} {k : Nat} {v : Int} (h : 4 * (k + 1) ≤ ds.length) : (spl ds k v).length = ds.length := by
  unfold spl; simp only [List.length_append, List.length_take, List.length_drop, wn_len]; omega
theorem gpg_setf {s : PgS} {k : Nat} {v n : Int} (h : 4 * (k + 1) ≤ (gpg s 0).length) : (gpg (setf k v s) n).length = (gpg s n).length := by
  by_cases e : n = 0
  · subst e; unfold setf; rw [gpg_eq, spl_len h]
  · unfold setf; rw [gpg_ne _ _ e]
theorem setf_len (s : PgS) (k : Nat) (v : Int) : (setf k v s).dir.length ≤ s.dir.length + 1 := aput_len _ _ _
def sp_Pager_count_head (c : Cl) : Sp := fun vs H Q _ => ∃ (p q : Addr) (O Od : Addr → Prop) (s : PgS), vs = [.ref p] ∧ PagAt c H p q O Od s ∧ s.dir.length ≤ 1000000 ∧ (gpg s 0).length = 256 ∧ ∀ H' O', PagAt c H' p q O' Od (cnth s) → Stp O O' H H' → Q .non H'
theorem ok_Pager_count_head (T : Txt K mg c) : GM P w K mg base CX0 5 c.Pager "count_head" (sp_Pager_count_head c) := by
  obtain ⟨f, fd, F, gf, gi⟩ := T.f_Pager_count_head
  obtain ⟨_, mg_PAGES⟩ := T.m_PAGES
  have tc_Pager := T.cl_Pager; have tn_Pager_device := T.n_Pager_device; have tn_Pager_committed := T.n_Pager_committed; have tn_Pager_dirty := T.n_Pager_dirty
  refine ⟨f, fd, ["self"], F.ok sc_Pager_count_head ?_ (fun cdv A outer s H vs Q E hr h => ?_), ⟨gf, gi, F.kp⟩, (F.binds (ps := ["self"]) fun _ _ _ _ _ _ us hl => match us, hl with | [_], _ => rfl)⟩
  · rintro vs H Q E ⟨_, _, _, _, _, rfl, _⟩
    rfl
  · obtain ⟨p, q, O0, Od, s, rfl, hP, sm, hl, k⟩ := h
    obtain ⟨⟨dx, a1, a2, k1, k2, D⟩, _⟩ := id hP
    have ho := D.o
    refine ⟨_, (pss_one (ps_if (pt_cmpR op_eq (pe_gm T.cl_Pager (ok_Pager_field T) (pv 0) (hr.mono (by decide)) pass0S (pa_cons (pe_glob (v := .int 6) rfl mg_PAGES ⟨_, rfl⟩) pa_nil)) pe_int (nomark _)) (pss_one (ps_expr (pe_gm T.cl_Pager (ok_Pager_set_field T) (pv 0) (hr.mono (by decide)) pass0S (pa_cons (pe_glob (v := .int 6) rfl mg_PAGES ⟨_, rfl⟩) (pa_cons pe_int pa_nil))))) pss_nil)), ?_⟩
    walk_at "cx"
    walk_at "rd"
    refine ⟨p, q, O0, Od, s, 6, rfl, by decide, hP, fun H1 kk => ?_⟩
    have ho1 := kk.get ho id
    walk_at "rd"
    refine ite_dec (fun e => ?_) fun e => ?_
    · walk_at "rd"
      refine ⟨p, q, O0, Od, s, 6, 1, rfl, hP.same kk, sm, by omega, by omega, fun H' O' P' s' => k H' O' ?_ ((Stp.pure kk).trans s')⟩
      unfold cnth; rw [if_pos e]; exact P'
    · refine k H1 O0 ?_ (Stp.pure kk)
      unfold cnth; rw [if_neg e]; exact hP.same kk
def sp_Pager_allocate (c : Cl) : Sp := fun vs H Q _ => ∃ (p q : Addr) (O Od : Addr → Prop) (s : PgS), vs = [.ref p] ∧ PagAt c H p q O Od s ∧ s.dir.length ≤ 999998 ∧ (gpg s 0).length = 256 ∧ ∀ H' O', PagAt c H' p q O' Od (palloc s).1 → Stp O O' H H' → Q (.int (palloc s).2) H'
theorem ok_Pager_allocate (T : Txt K mg c) : GM P w K mg base CX0 5 c.Pager "allocate" (sp_Pager_allocate c) := by
  obtain ⟨f, fd, F, gf, gi⟩ := T.f_Pager_allocate
  obtain ⟨_, mg_PAGES⟩ := T.m_PAGES
  obtain ⟨_, mg_FREE⟩ := T.m_FREE
  obtain ⟨_, mg_FIELD_SIZE⟩ := T.m_FIELD_SIZE
  obtain ⟨_, mg_PAGE_SIZE⟩ := T.m_PAGE_SIZE
  have tc_Pager := T.cl_Pager; have tn_Pager_device := T.n_Pager_device; have tn_Pager_committed := T.n_Pager_committed; have tn_Pager_dirty := T.n_Pager_dirty
  refine ⟨f, fd, ["self"], F.ok sc_Pager_allocate ?_ (fun cdv A outer s H vs Q E hr h => ?_), ⟨gf, gi, F.kp⟩, (F.binds (ps := ["self"]) fun _ _ _ _ _ _ us hl => match us, hl with | [_], _ => rfl)⟩
  · rintro vs H Q E ⟨_, _, _, _, _, rfl, _⟩
    rfl
  · obtain ⟨p, q, O0, Od, s, rfl, hP, sm, hl, k⟩ := h
    obtain ⟨⟨dx, a1, a2, k1, k2, D⟩, _⟩ := id hP
    have ho := D.o
    refine ⟨_, (pss_cons (ps_set (i := 1) sc_Pager_allocate.nd rfl (Or.inl rfl) (pe_gm T.cl_Pager (ok_Pager_field T) (pv 0) (hr.mono (by decide)) pass0S (pa_cons (pe_glob (v := .int 7) rfl mg_FREE ⟨_, rfl⟩) pa_nil)))
      (C8.pss_cut (ps_if (pt_cmpR op_eq (pv 1) pe_int (nomark _)) (pss_cons (ps_set (i := 1) sc_Pager_allocate.nd rfl (Or.inl rfl) (pe_gm T.cl_Pager (ok_Pager_field T) (pv 0) (hr.mono (by decide)) pass0S (pa_cons (pe_glob (v := .int 6) rfl mg_PAGES ⟨_, rfl⟩) pa_nil)))
      (pss_one (ps_expr (pe_gm T.cl_Pager (ok_Pager_set_field T) (pv 0) (hr.mono (by decide)) pass0S (pa_cons (pe_glob (v := .int 6) rfl mg_PAGES ⟨_, rfl⟩) (pa_cons (pe_op op_add (pv 1) pe_int) pa_nil)))))) (pss_one (ps_expr (pe_gm T.cl_Pager (ok_Pager_set_field T) (pv 0) (hr.mono (by decide)) pass0S (pa_cons (pe_glob (v := .int 7) rfl mg_FREE ⟨_, rfl⟩) (pa_cons (pe_g (ok_read_number T) (hr.mono (by decide)) pass0S (pa_cons (pe_gm T.cl_Pager (ok_Pager_read T) (pv 0) (hr.mono (by decide)) pass0S (pa_cons (pv 1) pa_nil)) (pa_cons pe_int (pa_cons (pe_glob (v := .int 4) rfl mg_FIELD_SIZE ⟨_, rfl⟩) pa_nil)))) pa_nil))))))
      (pss_cons (ps_expr (pe_gm T.cl_Pager (ok_Pager_write T) (pv 0) (hr.mono (by decide)) pass0S (pa_cons (pv 1) (pa_cons (pe_op op_rep (pe_lst (pa_cons pe_int pa_nil)) (pe_glob (v := .int 256) rfl mg_PAGE_SIZE ⟨_, rfl⟩)) pa_nil))))
      (pss_one (ps_ret (pv 1)))))), ?_⟩
    walk_at "cx"
    walk_at "rd"
    refine ⟨p, q, O0, Od, s, 7, rfl, by decide, hP, fun H1 kk => ?_⟩
    have ho1 := kk.get ho id
    walk_at "rd"
    refine x_cut (fun σ' H' => ∃ n O' s', σ' = [some (.ref p), some (.int n)] ∧ PagAt c H' p q O' Od s' ∧ Stp O0 O' H H' ∧ s'.dir.length ≤ 1000000 ∧ palloc s = (pwr n zeros s', n)) ?_ ?_
    · walk_at "rd"
      refine ite_dec (fun e => ?_) fun e => ?_
      · walk_at "rd"
        refine ⟨p, q, O0, Od, s, 6, rfl, by decide, hP.same kk, fun H2 kk2 => ?_⟩
        have ho2 := kk2.get ho1 id
        walk_at "rd"
        refine ⟨p, q, O0, Od, s, 6, fld s 6 + 1, rfl, (hP.same kk).same kk2, by omega, by omega, by omega, fun H' O' P' s' => ?_⟩
        refine ⟨_, O', _, rfl, P', (Stp.pure (kk.trans kk2 fun _ z => z.elim)).trans s', by have := setf_len s 6 (fld s 6 + 1); omega, ?_⟩
        unfold palloc; rw [if_pos e]
      · walk_at "rd"
        refine ⟨p, q, O0, Od, s, fld s 7, rfl, hP.same kk, fun b H2 hb kk2 e2 => ?_⟩
        have ho2 := kk2.get ho1 id
        walk_at "rd"
        refine ⟨b, gpg s (fld s 7), 0, 4, rfl, SqL.of e2, fun H3 kk3 => ?_⟩
        rw [List.drop_zero]
        refine ⟨p, q, O0, Od, s, 7, _, rfl, ((hP.same kk).same kk2).same kk3, by omega, by omega, by omega, fun H' O' P' s' => ?_⟩
        refine ⟨_, O', _, rfl, P', (Stp.pure ((kk.trans kk2 fun _ z => z.elim).trans kk3 fun _ z => z.elim)).trans s', by have := setf_len s 7 (rn ((gpg s (fld s 7)).take 4)); omega, ?_⟩
        unfold palloc; rw [if_neg e]
    · rintro σ' H2 ⟨n, O', s', rfl, P', st, lz, ea⟩
      obtain ⟨⟨dx, a1, a2, k1, k2, D⟩, _⟩ := id P'
      have ho := D.o
      walk_at "rd"
      refine x_newL fun z0 H3 hz0 k3 e3 => ?_
      walk_at "rd"
      refine x_rep e3 (by decide) (by decide) fun z1 H4 hz1 k4 e4 => ?_
      have e4' : H4 z1 = some (.lst (zeros.map V.int)) := by rw [e4]; unfold zeros; rw [List.map_replicate]; rfl
      have k24 : Kp F0 H2 H4 := k3.trans k4 fun _ z => z.elim
      refine ⟨p, q, O', Od, s', n, z1, zeros, rfl, P'.same k24, SqL.of e4', lz, fun H5 O5 P5 s5 => ?_⟩
      walk_at "rd"
      have z := k H5 O5 (by rw [ea]; exact P5) ((st.trans (Stp.pure k24)).trans s5)
      rw [ea] at z
      exact z
def sp_Pager_release (c : Cl) : Sp := fun vs H Q _ => ∃ (p q : Addr) (O Od : Addr → Prop) (s : PgS) (n : Int), vs = [.ref p, .int n] ∧ PagAt c H p q O Od s ∧ s.dir.length ≤ 999998 ∧ (gpg s 0).length = 256 ∧ ∀ H' O', PagAt c H' p q O' Od (prel n s) → Stp O O' H H' → Q .non H'
theorem ok_Pager_release (T : Txt K mg c) : GM P w K mg base CX0 5 c.Pager "release" (sp_Pager_release c) := by
  obtain ⟨f, fd, F, gf, gi⟩ := T.f_Pager_release
  obtain ⟨_, mg_FREE⟩ := T.m_FREE
  obtain ⟨_, mg_FIELD_SIZE⟩ := T.m_FIELD_SIZE
  obtain ⟨_, mg_PAGE_SIZE⟩ := T.m_PAGE_SIZE
  have tc_Pager := T.cl_Pager; have tn_Pager_device := T.n_Pager_device; have tn_Pager_committed := T.n_Pager_committed; have tn_Pager_dirty := T.n_Pager_dirty
  refine ⟨f, fd, ["self", "number"], F.ok sc_Pager_release ?_ (fun cdv A outer s H vs Q E hr h => ?_), ⟨gf, gi, F.kp⟩, (F.binds (ps := ["self", "number"]) fun _ _ _ _ _ _ us hl => match us, hl with | [_, _], _ => rfl)⟩
  · rintro vs H Q E ⟨_, _, _, _, _, _, rfl, _⟩
    rfl
  · obtain ⟨p, q, O0, Od, s, n, rfl, hP, sm, hl, k⟩ := h
    obtain ⟨⟨dx, a1, a2, k1, k2, D⟩, _⟩ := id hP
    have ho := D.o
    refine ⟨_, (pss_cons (ps_expr (pe_gm T.cl_Pager (ok_Pager_write T) (pv 0) (hr.mono (by decide)) pass0S (pa_cons (pv 1) (pa_cons (pe_op op_cat (pe_g (ok_write_number T) (hr.mono (by decide)) pass0S (pa_cons (pe_glob (v := .int 4) rfl mg_FIELD_SIZE ⟨_, rfl⟩) (pa_cons (pe_gm T.cl_Pager (ok_Pager_field T) (pv 0) (hr.mono (by decide)) pass0S (pa_cons (pe_glob (v := .int 7) rfl mg_FREE ⟨_, rfl⟩) pa_nil)) pa_nil))) (pe_op op_rep (pe_lst (pa_cons pe_int pa_nil)) (pe_op op_sub (pe_glob (v := .int 256) rfl mg_PAGE_SIZE ⟨_, rfl⟩) (pe_glob (v := .int 4) rfl mg_FIELD_SIZE ⟨_, rfl⟩)))) pa_nil))))
      (pss_one (ps_expr (pe_gm T.cl_Pager (ok_Pager_set_field T) (pv 0) (hr.mono (by decide)) pass0S (pa_cons (pe_glob (v := .int 7) rfl mg_FREE ⟨_, rfl⟩) (pa_cons (pv 1) pa_nil)))))), ?_⟩
    walk_at "cx"
    walk_at "rd"
    refine ⟨p, q, O0, Od, s, 7, rfl, by decide, hP, fun H1 kk => ?_⟩
    have ho1 := kk.get ho id
    walk_at "rd"
    refine ⟨4, fld s 7, rfl, by decide, fun b H2 hb k2 e2 => ?_⟩
    walk_at "rd"
    refine x_newL fun z0 H3 hz0 k3 e3 => ?_
    walk_at "rd"
    refine x_rep e3 (by decide) (by decide) fun z1 H4 hz1 k4 e4 => ?_
    walk_at "rd"
    refine x_catL (k4.get (k3.get e2 id) id) e4 (by rw [List.length_map, wn_len, List.length_replicate]; decide) fun l H5 hl5 k5 e5 => ?_
    have e5' : H5 l = some (.lst ((wn 4 (fld s 7) ++ List.replicate 252 0).map V.int)) := by rw [e5, List.map_append, List.map_replicate]; rfl
    have k05 : Kp F0 H H5 := (((kk.trans k2 fun _ z => z.elim).trans k3 fun _ z => z.elim).trans k4 fun _ z => z.elim).trans k5 fun _ z => z.elim
    walk_at "rd"
    refine ⟨p, q, O0, Od, s, n, l, _, rfl, hP.same k05, SqL.of e5', by omega, fun H6 O6 P6 s6 => ?_⟩
    obtain ⟨⟨dx, a1, a2, k1, k2, D6⟩, _⟩ := id P6
    have ho6 := D6.o
    have l0 : (gpg (pwr n (wn 4 (fld s 7) ++ List.replicate 252 0) s) 0).length = 256 := by
      by_cases hn : (0 : Int) = n
      · rw [← hn, gpg_eq, List.length_append, wn_len, List.length_replicate]
      · rw [gpg_ne _ _ hn]; exact hl
    have l1 := pwr_len s n (wn 4 (fld s 7) ++ List.replicate 252 0)
    walk_at "rd"
    refine ⟨p, q, O6, Od, _, 7, n, rfl, P6, by omega, by omega, by omega, fun H7 O7 P7 s7 => k H7 O7 P7 (((Stp.pure k05).trans s6).trans s7)⟩
end
/-! ### the pager's raising methods -/
theorem Kp.under {F : Addr → Prop} {H H' : Hp} (k : Kp F H H') (a : Addr) (u : HO) : Kp F (upd H a u) (upd H' a u) := fun b o h n => by
  by_cases e : b = a
  · subst e; rw [upd_same] at h ⊢; exact h
  · rw [upd_ne e] at h ⊢; exact k b o h n
theorem Wk.keys {d : Addr} {o : Obj} {kvs : List (Key × V)} : Wk (Itk d o kvs) (fun H => H d = some (.frz o (.dK kvs))) (kvs.map fun kv => kV kv.1) where
  go := fun i H h g => ⟨g, by rw [List.length_map] at h; exact h⟩
  yld := fun i H x H' h _ y => by
    obtain ⟨e, k, v, h1, h2⟩ := y
    exact ⟨e.symm, by rw [List.getElem?_map, h1, h2]; rfl⟩
  stop := fun H g => ⟨g, by rw [List.length_map]; exact Nat.le_refl _⟩
section
variable {σ : L2.St} {H : Hp} {D : Ends} {td : TE} {t : TS} {d : Addr} {u : HO} {R : It → Hp → Prop} {o : Obj} {kvs : List (Key × V)}
def rKeysQ (x : V) (H : Hp) (R : It → Hp → Prop) : Prop := ∃ d o, x = .ref d ∧ ((∃ kvs, H d = some (.frz o (.dK kvs)) ∧ R (Itk d o kvs) H) ∨ ∃ kvs, H d = some (.frz o (.dT kvs)) ∧ R (Itkt d o kvs) H)
theorem x_keys (h : td σ H fun x H1 => rKeysQ x H1 R) : iKeys td σ H R := h
theorem x_kq (h : H d = some (.frz o (.dK kvs))) (q : R (Itk d o kvs) H) : rKeysQ (.ref d) H R := ⟨d, o, rfl, .inl ⟨kvs, h, q⟩⟩
theorem x_lock (h : H d = some u) (m : Mut (some u)) (q : ∀ od, t ⟨fun σ' H' => H' d = some (.frz od u) ∧ D.nx σ' (upd H' d u), fun v H' => H' d = some (.frz od u) ∧ D.rt v (upd H' d u), fun σ' H' => H' d = some (.frz od u) ∧ D.bk σ' (upd H' d u), fun σ' H' => H' d = some (.frz od u) ∧ D.ct σ' (upd H' d u)⟩ σ (upd H d (.frz od u))) : tLock t D σ H := ⟨d, u, h, m, q⟩
end
/-- the keys, ascending -/
def skeys (l : List (Int × List Int)) : List Int := (l.map (·.1)).mergeSort fun a b => decide (a ≤ b)
theorem skeys_perm (l : List (Int × List Int)) : (skeys l).Perm (l.map (·.1)) := List.mergeSort_perm _ _
theorem skeys_sorted (l : List (Int × List Int)) : (skeys l).Pairwise (· ≤ ·) := by
  have h := List.pairwise_mergeSort (le := fun a b : Int => decide (a ≤ b)) (fun a b c h1 h2 => by simp only [decide_eq_true_eq] at *; omega) (fun a b => by simp only [Bool.or_eq_true, decide_eq_true_eq]; omega) (l.map (·.1))
  exact h.imp fun x => by simpa using x
theorem skeys_eq {l : List (Int × List Int)} {ys : List Int} (p : ys.Perm (l.map (·.1))) (s : ys.Pairwise (· ≤ ·)) : ys = skeys l :=
  List.Perm.eq_of_pairwise (fun a b _ _ h1 h2 => Int.le_antisymm h1 h2) s (skeys_sorted l) (p.trans (skeys_perm l).symm)
theorem skeys_len (l : List (Int × List Int)) : (skeys l).length = l.length := by rw [(skeys_perm l).length_eq, List.length_map]
def grp (l : List (Int × List Int)) : List (Int × List Int) := (skeys l).map fun n => (n, (aget l n).getD [])
theorem grp_at {l : List (Int × List Int)} {i : Nat} {n : Int} (h : (skeys l)[i]? = some n) : (grp l)[i]? = some (n, (aget l n).getD []) := by unfold grp; rw [List.getElem?_map, h]; rfl
theorem mem_skeys {l : List (Int × List Int)} {n : Int} (h : n ∈ skeys l) : ∃ d, aget l n = some d ∧ (n, d) ∈ l := by
  have h1 := (skeys_perm l).mem_iff.mp h
  obtain ⟨q, hq, e⟩ := List.mem_map.mp h1
  unfold aget
  cases z : l.find? fun q => decide (q.1 = n) with
  | none =>
    rw [List.find?_eq_none] at z
    exact absurd (decide_eq_true e) (z q hq)
  | some r =>
    have h2 := List.find?_some z
    simp only [decide_eq_true_eq] at h2
    exact ⟨r.2, rfl, by rw [← h2]; exact List.mem_of_find?_eq_some z⟩
theorem aget_mem {l : List (Int × List Int)} {q : Int × List Int} (h : q ∈ l) : ∃ d, aget l q.1 = some d := by
  unfold aget
  cases z : l.find? fun r => decide (r.1 = q.1) with
  | none =>
    rw [List.find?_eq_none] at z
    exact absurd (decide_eq_true rfl) (z q h)
  | some r => exact ⟨r.2, rfl⟩
def andD (r : DevS × Bool) (f : DevS → DevS × Bool) : DevS × Bool := if r.2 = true then f r.1 else r
def coms (l m : List (Int × List Int)) : List (Int × List Int) := l.foldl (fun a q => aput a q.1 ((aget l q.1).getD [])) m
def pcommit (s : PgS) : PgS × Bool := if s.dir.length = 0 then (s, true) else
  let r := andD (dApp (wg (grp s.dir)) s.dev) dSyncL
  (if r.2 = true then { dev := r.1, com := coms s.dir s.com, dir := [] } else { s with dev := r.1 }, r.2)
def pwrites : List (Int × List Int) → DevS → DevS × Bool
  | [], d => (d, true)
  | q :: r, d => if (dWrite q.1 q.2 d).2 = true then pwrites r (dWrite q.1 q.2 d).1 else (d, false)
def pckpt (s : PgS) : PgS × Bool :=
  let r := andD (andD (andD (pwrites (grp s.com) s.dev) dSyncP) (dByte none)) dSyncL
  (if r.2 = true then { s with dev := r.1, com := [] } else { s with dev := r.1 }, r.2)
/-- the sizes that hold everywhere -/
structure PgZ (s : PgS) : Prop where
  w : s.dev.writes.length ≤ 400000
  p : s.dev.pages.length + s.dev.writes.length ≤ 1000000
  l : s.dev.log.length + s.dev.steps.length ≤ 7000000
  z1 : Sz s.dev.pages
  z2 : Sz s.dev.writes
  nc : s.com.length < 64
  nd : s.dir.length < 64
  lc : ∀ q ∈ s.com, q.2.length = 256
  ld : ∀ q ∈ s.dir, q.2.length = 256 ∧ 0 ≤ q.1 ∧ q.1 < 256 ^ 4
theorem PgZ.good {s : PgS} (h : PgZ s) : Good (grp s.dir) ∨ 60 < s.dir.length := by
  by_cases q : s.dir.length ≤ 60
  · refine .inl ⟨by unfold grp; rw [List.length_map, skeys_len]; exact q, fun x hx => ?_⟩
    unfold grp at hx
    obtain ⟨n, hn, rfl⟩ := List.mem_map.mp hx
    obtain ⟨d, hd, hm⟩ := mem_skeys hn
    have := h.ld _ hm
    rw [hd]
    exact ⟨this.2.1, this.2.2, this.1⟩
  · exact .inr (by omega)
theorem dApp_sm : ∀ (bs : List Int) (d : DevS), (dApp bs d).1.pages = d.pages ∧ (dApp bs d).1.writes = d.writes ∧ (dApp bs d).1.log = d.log
  | [], _ => ⟨rfl, rfl, rfl⟩
  | b :: bs, d => by
    show (if (dByte (some b) d).2 = true then dApp bs (dByte (some b) d).1 else (d, false)).1.pages = d.pages ∧ (if (dByte (some b) d).2 = true then dApp bs (dByte (some b) d).1 else (d, false)).1.writes = d.writes ∧ (if (dByte (some b) d).2 = true then dApp bs (dByte (some b) d).1 else (d, false)).1.log = d.log
    have h := dApp_sm bs (dByte (some b) d).1
    have h2 : (dByte (some b) d).1.pages = d.pages ∧ (dByte (some b) d).1.writes = d.writes ∧ (dByte (some b) d).1.log = d.log := by
      unfold dByte pw; split <;> exact ⟨rfl, rfl, rfl⟩
    split
    · exact ⟨h.1.trans h2.1, h.2.1.trans h2.2.1, h.2.2.trans h2.2.2⟩
    · exact ⟨rfl, rfl, rfl⟩
theorem PgZ.sml {s : PgS} (h : PgZ s) : Sml s.dev := ⟨by have := h.w; omega, by have := h.p; omega, by have := h.l; omega, h.z1, h.z2⟩
theorem PgZ.app {s : PgS} (h : PgZ s) {bs : List Int} (hb : bs.length ≤ 900000) : Sml (dApp bs s.dev).1 := by
  have e := dApp_sm bs s.dev
  have e2 := dApp_steps bs s.dev
  have := h.w; have := h.p; have := h.l
  exact ⟨by rw [e.2.1]; omega, by rw [e.1, e.2.1]; omega, by rw [e.2.2]; omega, by rw [e.1]; exact h.z1, by rw [e.2.1]; exact h.z2⟩
/-- what a raising method of the pager promises -/
def spP (c : Cl) (H : Hp) (p q : Addr) (O : Addr → Prop) (r : PgS × Bool) (Q : Hp → Prop) (E : XK) : Prop :=
  ∀ H' O' Od', PagAt c H' p q O' Od' r.1 → Stp O O' H H' → if r.2 = true then Q H' else E (.ref c.PowerCut) none H'
theorem spP.yes {c : Cl} {H H' : Hp} {p q : Addr} {O O' Od' : Addr → Prop} {r : PgS × Bool} {s' : PgS} {Q : Hp → Prop} {E : XK} (k : spP c H p q O r Q E) (e : r = (s', true)) (P : PagAt c H' p q O' Od' s') (t : Stp O O' H H') : Q H' := by
  have z := k H' O' Od' (by rw [e]; exact P) t
  rw [e, if_pos rfl] at z
  exact z
theorem spP.no {c : Cl} {H H' : Hp} {p q : Addr} {O O' Od' : Addr → Prop} {r : PgS × Bool} {s' : PgS} {Q : Hp → Prop} {E : XK} (k : spP c H p q O r Q E) (e : r = (s', false)) (P : PagAt c H' p q O' Od' s') (t : Stp O O' H H') : E (.ref c.PowerCut) none H' := by
  have z := k H' O' Od' (by rw [e]; exact P) t
  rw [e, if_neg Bool.false_ne_true] at z
  exact z
theorem keys_pr {O G : Addr → Prop} {H : Hp} : ∀ {kvs : List (Key × V)} {l : List (Int × List Int)}, Paired (RPg H O G) kvs l → kvs.map (·.1) = (l.map (·.1)).map Sum.inl
  | _, _, .nil => rfl
  | _, _, .cons r t => by rw [List.map_cons, List.map_cons, List.map_cons, keys_pr t, r.1]
theorem getE' {xs : List Int} {i : Nat} {x : V} (h : (xs.map V.int)[i]? = some x) : ∃ n, xs[i]? = some n ∧ x = .int n := by
  rw [List.getElem?_map] at h
  cases q : xs[i]? with
  | none => rw [q] at h; cases h
  | some z => rw [q] at h; exact ⟨z, rfl, (Option.some.inj h).symm⟩
theorem get_some {O G : Addr → Prop} {H : Hp} {kvs : List (Key × V)} {l : List (Int × List Int)} {n : Int} {ds : List Int} (t : Paired (RPg H O G) kvs l) (h : aget l n = some ds) : ∃ a, valV kvs (.inl n) = some (.ref a) ∧ Im H O G a ds := by
  rcases get_pr RPg.key n t with ⟨e1, e2⟩ | ⟨v, ds', e1, e2, _, a, ev, i⟩
  · rw [e2] at h; cases h
  · rw [e2] at h; cases h
    exact ⟨a, by rw [e1]; exact congrArg some ev, i⟩
section
variable {P : Program} {w : World} {K : PySem.W.Frag} {mg : Str → Option Value} {base : Heap} {c : Cl}
theorem pwrites_app : ∀ (ws : List (Int × List Int)) (d : DevS) (q : Int × List Int), (pwrites ws d).2 = true → pwrites (ws ++ [q]) d = dWrite q.1 q.2 (pwrites ws d).1
  | [], d, q, _ => by
    show (if (dWrite q.1 q.2 d).2 = true then ((dWrite q.1 q.2 d).1, true) else (d, false)) = dWrite q.1 q.2 d
    unfold dWrite pw
    by_cases h : can d = true
    · rw [if_pos h, if_pos rfl]
    · rw [if_neg h, if_neg Bool.false_ne_true]
  | r :: ws, d, q, h => by
    show (if (dWrite r.1 r.2 d).2 = true then pwrites (ws ++ [q]) (dWrite r.1 r.2 d).1 else (d, false)) = _
    by_cases y : (dWrite r.1 r.2 d).2 = true
    · have e : pwrites (r :: ws) d = pwrites ws (dWrite r.1 r.2 d).1 := by show (if _ then _ else _) = _; rw [if_pos y]
      rw [if_pos y, e]
      rw [e] at h
      exact pwrites_app ws _ q h
    · have e : pwrites (r :: ws) d = (d, false) := by show (if _ then _ else _) = _; rw [if_neg y]
      rw [e] at h
      cases h
theorem dWrite_no {n : Int} {ds : List Int} {d : DevS} (h : (dWrite n ds d).2 = false) : (dWrite n ds d).1 = d := by
  unfold dWrite pw at *
  by_cases q : can d = true
  · rw [if_pos q] at h; cases h
  · rw [if_neg q]
theorem pwrites_stop : ∀ (ws vs : List (Int × List Int)) (d : DevS) (q : Int × List Int), (pwrites ws d).2 = true → (dWrite q.1 q.2 (pwrites ws d).1).2 = false → pwrites (ws ++ q :: vs) d = ((pwrites ws d).1, false)
  | [], vs, d, q, _, h => by
    show (if (dWrite q.1 q.2 d).2 = true then _ else (d, false)) = (d, false)
    rw [if_neg (by rw [show (dWrite q.1 q.2 d).2 = false from h]; exact Bool.false_ne_true)]
  | r :: ws, vs, d, q, h, g => by
    show (if (dWrite r.1 r.2 d).2 = true then pwrites (ws ++ q :: vs) (dWrite r.1 r.2 d).1 else (d, false)) = _
    by_cases y : (dWrite r.1 r.2 d).2 = true
    · have e : pwrites (r :: ws) d = pwrites ws (dWrite r.1 r.2 d).1 := by show (if _ then _ else _) = _; rw [if_pos y]
      rw [if_pos y, e]
      rw [e] at h g
      exact pwrites_stop ws vs _ q h g
    · have e : pwrites (r :: ws) d = (d, false) := by show (if _ then _ else _) = _; rw [if_neg y]
      rw [e] at h
      cases h
/-- the writes of a checkpoint change the pending writes alone -/
theorem pwrites_sm : ∀ (ws : List (Int × List Int)) (d : DevS), (pwrites ws d).1.pages = d.pages ∧ (pwrites ws d).1.log = d.log ∧ (pwrites ws d).1.steps = d.steps ∧ (pwrites ws d).1.writes.length ≤ d.writes.length + ws.length ∧ (Sz d.writes → Sz ws → Sz (pwrites ws d).1.writes)
  | [], d => ⟨rfl, rfl, rfl, Nat.le_refl _, fun h _ => h⟩
  | r :: ws, d => by
    have h := pwrites_sm ws (dWrite r.1 r.2 d).1
    by_cases y : (dWrite r.1 r.2 d).2 = true
    · have e : pwrites (r :: ws) d = pwrites ws (dWrite r.1 r.2 d).1 := by show (if _ then _ else _) = _; rw [if_pos y]
      rw [e]
      have e2 : dWrite r.1 r.2 d = ({ d with done := d.done + 1, writes := d.writes ++ [(r.1, r.2)] }, true) := by
        unfold dWrite pw at *
        by_cases q : can d = true
        · rw [if_pos q]
        · rw [if_neg q] at y; cases y
      rw [e2] at h ⊢
      refine ⟨h.1, h.2.1, h.2.2.1, ?_, fun h1 h2 => h.2.2.2.2 ?_ fun q hq => h2 q (List.mem_cons_of_mem _ hq)⟩
      · have := h.2.2.2.1
        simp only [List.length_append, List.length_cons, List.length_nil] at this ⊢
        omega
      · intro q hq
        rcases List.mem_append.mp hq with hq | hq
        · exact h1 q hq
        · rw [List.mem_singleton.mp hq]; exact h2 r (by simp)
    · have e : pwrites (r :: ws) d = (d, false) := by show (if _ then _ else _) = _; rw [if_neg y]
      rw [e]
      exact ⟨rfl, rfl, rfl, Nat.le_add_right _ _, fun h1 _ => h1⟩
theorem grp_sz {l : List (Int × List Int)} (h : ∀ q ∈ l, q.2.length = 256) : Sz (grp l) := fun x hx => by
  unfold grp at hx
  obtain ⟨n, hn, rfl⟩ := List.mem_map.mp hx
  obtain ⟨d, hd, hm⟩ := mem_skeys hn
  rw [hd]
  exact Nat.le_of_eq (h _ hm)
/-- the sizes that a checkpoint needs -/
structure CkZ (s : PgS) : Prop where
  w : s.dev.writes.length ≤ 400000
  p : s.dev.pages.length + s.dev.writes.length ≤ 1000000
  l : s.dev.log.length + s.dev.steps.length ≤ 7000000
  z1 : Sz s.dev.pages
  z2 : Sz s.dev.writes
  nc : s.com.length < 64
  lc : ∀ q ∈ s.com, q.2.length = 256
theorem PgZ.ck {s : PgS} (h : PgZ s) : CkZ s := ⟨h.w, h.p, h.l, h.z1, h.z2, h.nc, h.lc⟩
def sp_Pager_checkpoint (c : Cl) : Sp := fun vs H Q E => ∃ (p q : Addr) (O Od : Addr → Prop) (s : PgS), vs = [.ref p] ∧ PagAt c H p q O Od s ∧ CkZ s ∧ spP c H p q O (pckpt s) (Q .non) E
theorem andD_yes {r : DevS × Bool} {f : DevS → DevS × Bool} (h : r.2 = true) : andD r f = f r.1 := by unfold andD; rw [if_pos h]
theorem andD_no {r : DevS × Bool} {f : DevS → DevS × Bool} (h : r.2 = false) : andD r f = r := by unfold andD; rw [if_neg (by rw [h]; exact Bool.false_ne_true)]
theorem ok_Pager_checkpoint (T : Txt K mg c) : GM P w K mg base (L2.CX P w) 3 c.Pager "checkpoint" (sp_Pager_checkpoint c) := by
  obtain ⟨f, fd, F, gf, gi⟩ := T.f_Pager_checkpoint
  have tc_Device := T.cl_Device; have tn_Device_pages := T.n_Device_pages; have tn_Device_page_writes := T.n_Device_page_writes; have tn_Device_durable_log := T.n_Device_durable_log; have tn_Device_log_steps := T.n_Device_log_steps; have tn_Device_done := T.n_Device_done; have tn_Device_most := T.n_Device_most
  have tc_Pager := T.cl_Pager; have tn_Pager_device := T.n_Pager_device; have tn_Pager_committed := T.n_Pager_committed; have tn_Pager_dirty := T.n_Pager_dirty
  refine ⟨f, fd, ["self"], F.okX sc_Pager_checkpoint ?_ (fun cdv A outer s0 H vs Q E hr h => ?_), ⟨gf, gi, F.kp⟩, (F.binds (ps := ["self"]) fun _ _ _ _ _ _ us hl => match us, hl with | [_], _ => rfl)⟩
  · rintro vs H Q E ⟨_, _, _, _, _, rfl, _⟩
    rfl
  · obtain ⟨p, q, O0, Od, s, rfl, hP, pz, k⟩ := h
    obtain ⟨O, dx, a1, a2, k1, k2, eO, D, og⟩ := hP.opn
    have fr : ∀ {H'}, Kp (PagG p a1 a2 Od) H H' → ∀ b, H' b = none → O b := fun {H'} kk b hb => by
      rw [eO]
      by_cases z : O0 b
      · exact .inl z
      · exact .inr (kk.free hb fun g => z (og b g))
    have ho := D.o
    have h1 := D.h1
    have lk : k1.length = s.com.length := D.p1.length
    have lgr : (grp s.com).length = s.com.length := by unfold grp; rw [List.length_map, skeys_len]
    have gsz := grp_sz pz.lc
    have nc := pz.nc
    have pzw := pz.w; have pzp := pz.p; have pzl := pz.l
    refine ⟨_, (pss_cons (ps_for (passes_of rfl) rfl (pi_listK rfl (pe_callB (c_sortedDI rfl) (by rfl) T.z_sorted (by decide +kernel) (pa_cons (pe_fldK rfl (pv 0)) pa_nil))) (pg_name (i := 1) sc_Pager_checkpoint.nd rfl (Or.inl rfl)) (pss_one (ps_expr (pe_gm T.cl_Device (ok_Device_write_page T) (pe_fldK rfl (pv 0)) (hr.mono (by decide)) (passE (E := E) rfl rfl rfl rfl) (pa_cons (pv 1) (pa_cons (pe_dget (hu_of hr) (pe_fldK rfl (pv 0)) (pv 1) (fun _ _ => rfl)) pa_nil))))))
      (pss_cons (ps_expr (pe_gm0 T.cl_Device (ok_Device_sync_pages T) (pe_fldK rfl (pv 0)) (hr.mono (by decide)) (passE (E := E) rfl rfl rfl rfl)))
      (pss_cons (ps_expr (pe_gm0 T.cl_Device (ok_Device_clear T) (pe_fldK rfl (pv 0)) (hr.mono (by decide)) (passE (E := E) rfl rfl rfl rfl)))
      (pss_cons (ps_expr (pe_gm0 T.cl_Device (ok_Device_sync_log T) (pe_fldK rfl (pv 0)) (hr.mono (by decide)) (passE (E := E) rfl rfl rfl rfl)))
      (pss_one (ps_fld (pv 0) pe_dnewK rfl)))))), ?_⟩
    walk_at "cx"
    walk_at "rd"
    refine x_srtD h1 (keys_pr D.p1) (by rw [List.length_map]; omega) fun ys ps H1 hy1 hy2 hps kk1 e1 => ?_
    obtain rfl := skeys_eq hy1 hy2
    have D1 := D.same kk1
    have nps := D.fresh hps
    have go : ∀ b, Od b ∨ H1 b = none → PagG p a1 a2 Od b ∨ H b = none := fun b z => by
      rcases z with z | z
      · exact .inl (.inr (.inr (.inr z)))
      · exact .inr (kk1.free z id)
    walk_at "rd"
    refine wfor Wk.list (fun i σ H' => ∃ u Od', σ = [some (.ref p), u] ∧ (pwrites ((grp s.com).take i) s.dev).2 = true ∧ PagA c O Od' H' p q dx a1 a2 k1 k2 { s with dev := (pwrites ((grp s.com).take i) s.dev).1 } ∧ Stp Od Od' H1 H' ∧ Kp (PagG p a1 a2 Od) H H')
      ⟨none, Od, rfl, rfl, D1, Stp.refl _ _, kk1.mono fun _ z => z.elim⟩ (fun i σ H' ⟨_, _, _, _, _, t, _⟩ => SqL.of (t.kp.get e1 fun z => nps (.inr (.inr (.inr z))))) ?_ ?_
    · rintro i x σ H2 ex ⟨u, Od', rfl, hb, D2, t2, kk2⟩
      obtain ⟨n, en, rfl⟩ := getE' ex
      obtain ⟨ds, hds, _⟩ := mem_skeys (List.mem_of_getElem? en)
      obtain ⟨l, el, il⟩ := get_some D2.p1 hds
      have ho2 := D2.o
      have h12 := D2.h1
      obtain ⟨⟨dx2, b1, b2, b3, b4, kvs, ws, DD⟩, _⟩ := id D2.dv
      have hq := DD.o
      have tk : (grp s.com).take (i + 1) = (grp s.com).take i ++ [(n, ds)] := by rw [List.take_succ, grp_at en, hds]; rfl
      have sm := pwrites_sm ((grp s.com).take i) s.dev
      have tl : ((grp s.com).take i).length ≤ (grp s.com).length := by rw [List.length_take]; omega
      have sm4 := sm.2.2.2.1
      have sz0 : Sml (pwrites ((grp s.com).take i) s.dev).1 := ⟨by omega, by rw [sm.1]; omega, by rw [sm.2.1, sm.2.2.1]; omega, by rw [sm.1]; exact pz.z1, sm.2.2.2.2 pz.z2 fun x hx => gsz x (List.mem_of_mem_take hx)⟩
      walk_at "rd"
      refine x_dgI (.inl h12) el ?_
      walk_at "rd"
      refine ⟨q, Od', _, n, l, ds, rfl, D2.dv, SqL.of il.1, fun z => il.2.2 (.inr (.inr (.inr z))), sz0, fun H3 Od3 V3 t3 => ?_⟩
      have D3 := D2.dev V3 t3 (fr kk2)
      have kk3 : Kp (PagG p a1 a2 Od) H H3 := kk2.trans t3.kp fun b z => go b (t2.gr b z)
      have ea := pwrites_app ((grp s.com).take i) s.dev (n, ds) hb
      refine ite_bool (fun e3 => ?_) fun e3 => ?_
      · refine ⟨_, Od3, rfl, by rw [tk, ea]; exact e3, by rw [tk, ea]; exact D3, t2.trans t3, kk3⟩
      · have e : pwrites (grp s.com) s.dev = ((pwrites ((grp s.com).take i) s.dev).1, false) := by
          have q := pwrites_stop ((grp s.com).take i) ((grp s.com).drop (i + 1)) s.dev (n, ds) hb e3
          have hg := grp_at en
          rw [hds] at hg
          have hi : i < (grp s.com).length := (List.getElem?_eq_some_iff.mp hg).1
          have hbi : (grp s.com)[i] = (n, ds) := (List.getElem?_eq_some_iff.mp hg).2
          rw [← hbi, ← List.drop_eq_getElem_cons hi, List.take_append_drop] at q
          exact q
        have eq : pckpt s = ({ s with dev := (pwrites ((grp s.com).take i) s.dev).1 }, false) := by
          unfold pckpt; rw [e]; rfl
        rw [dWrite_no e3] at D3
        exact k.no eq (D3.clo eO) (Stp.nO kk3 og)
    · rintro σ H2 ⟨u, Od', rfl, hb, D2, t2, kk2⟩
      rw [List.length_map, skeys_len, ← lgr, List.take_length] at hb D2
      generalize hr1 : pwrites (grp s.com) s.dev = r1 at hb D2
      have sm := pwrites_sm (grp s.com) s.dev
      rw [hr1] at sm
      have sm4 := sm.2.2.2.1
      have eck : pckpt s = (if (andD (andD (dSyncP r1.1) (dByte none)) dSyncL).2 = true then { s with dev := (andD (andD (dSyncP r1.1) (dByte none)) dSyncL).1, com := [] } else { s with dev := (andD (andD (dSyncP r1.1) (dByte none)) dSyncL).1 }, (andD (andD (dSyncP r1.1) (dByte none)) dSyncL).2) := by
        unfold pckpt; rw [hr1, andD_yes hb]
      have sz1 : Sml r1.1 := ⟨by omega, by rw [sm.1]; omega, by rw [sm.2.1, sm.2.2.1]; omega, by rw [sm.1]; exact pz.z1, sm.2.2.2.2 pz.z2 gsz⟩
      have ho2 := D2.o
      obtain ⟨⟨dx2, b1, b2, b3, b4, kvs, ws, DD⟩, _⟩ := id D2.dv
      have hq := DD.o
      walk_at "rd"
      refine ⟨q, Od', _, rfl, D2.dv, sz1, fun H3 Od3 V3 t3 => ?_⟩
      have D3 := D2.dev V3 t3 (fr kk2)
      have kk3 : Kp (PagG p a1 a2 Od) H H3 := kk2.trans t3.kp fun b z => go b (t2.gr b z)
      have t23 := t2.trans t3
      refine ite_bool (fun e3 => ?_) fun e3 => ?_
      · rw [andD_yes e3] at eck
        have sz2 : Sml (dSyncP r1.1).1 := by
          have h1 := sz1.1; have h2 := sz1.2.1; have h3 := sz1.2.2.1
          unfold dSyncP pw; split
          · have := puts_len r1.1.writes r1.1.pages
            exact ⟨Nat.zero_le _, by show (r1.1.writes.foldl (fun l q => aput l q.1 q.2) r1.1.pages).length + 0 ≤ 2000000; omega, h3, puts_sz sz1.2.2.2.1 sz1.2.2.2.2, fun q hq => by cases hq⟩
          · exact sz1
        have sl2 : (dSyncP r1.1).1.log = r1.1.log ∧ (dSyncP r1.1).1.steps = r1.1.steps := by unfold dSyncP pw; split <;> exact ⟨rfl, rfl⟩
        have ho3 := D3.o
        obtain ⟨⟨dx3, c1, c2, c3, c4, kvs3, ws3, DD3⟩, _⟩ := id V3
        have hq3 := DD3.o
        walk_at "rd"
        refine ⟨q, Od3, _, rfl, D3.dv, sz2, fun H4 Od4 V4 t4 => ?_⟩
        have D4 := D3.dev V4 t4 (fr kk3)
        have kk4 : Kp (PagG p a1 a2 Od) H H4 := kk3.trans t4.kp fun b z => go b (t23.gr b z)
        have t24 := t23.trans t4
        refine ite_bool (fun e4 => ?_) fun e4 => ?_
        · rw [andD_yes e4] at eck
          have sz3 : Sml (dByte none (dSyncP r1.1).1).1 := by
            unfold dByte pw; split
            · refine ⟨sz2.1, sz2.2.1, ?_, sz2.2.2.2⟩
              show (dSyncP r1.1).1.log.length + ((dSyncP r1.1).1.steps ++ [none]).length ≤ 8000000
              rw [sl2.1, sl2.2, List.length_append, sm.2.1, sm.2.2.1]
              show _ + (_ + 1) ≤ _
              omega
            · exact sz2
          have ho4 := D4.o
          obtain ⟨⟨dx4, f1, f2, f3, f4, kvs4, ws4, DD4⟩, _⟩ := id V4
          have hq4 := DD4.o
          walk_at "rd"
          refine ⟨q, Od4, _, rfl, D4.dv, sz3, fun H5 Od5 V5 t5 => ?_⟩
          have D5 := D4.dev V5 t5 (fr kk4)
          have kk5 : Kp (PagG p a1 a2 Od) H H5 := kk4.trans t5.kp fun b z => go b (t24.gr b z)
          refine ite_bool (fun e5 => ?_) fun e5 => ?_
          · rw [if_pos e5, e5] at eck
            have ho5 := D5.o
            walk_at "rd"
            refine x_dnew fun e' H8 he' k8 e8 => ?_
            have ho8 := k8.get ho5 id
            walk_at "rd"
            intro H9 p9 k9
            have kz : Kp (F1 p) H5 H9 := (k8.mono fun _ z => z.elim).trans k9 fun _ z => .inl z
            have D9 := D5.new1 he' kz p9 (k9.get e8 (ne_of_none ho5 he').symm) (fr kk5 _ he')
            exact k.yes eck (D9.clo eO) (Stp.nO (kk5.trans kz fun _ z => .inl (.inl z)) og)
          · rw [if_neg (by rw [e5]; exact Bool.false_ne_true), e5] at eck
            exact k.no eck (D5.clo eO) (Stp.nO kk5 og)
        · rw [andD_no e4, if_neg (by rw [e4]; exact Bool.false_ne_true), e4] at eck
          exact k.no eck (D4.clo eO) (Stp.nO kk4 og)
      · rw [andD_no (f := dByte none) e3, andD_no e3, if_neg (by rw [e3]; exact Bool.false_ne_true), e3] at eck
        exact k.no eck (D3.clo eO) (Stp.nO kk3 og)
end
/-- the pages that the groups of a log hold -/
def puts (m : List (Int × List Int)) (g : List (Int × List Int)) : List (Int × List Int) := g.foldl (fun l q => aput l q.1 q.2) m
def pini0 (gs : List (List (Int × List Int))) (d : DevS) : PgS := { dev := d, com := gs.foldl puts [], dir := [] }
def pini1 (gs : List (List (Int × List Int))) (d : DevS) : PgS × Bool := if 0 < (clog d).length then pckpt (pini0 gs d) else (pini0 gs d, true)
def pinit (gs : List (List (Int × List Int))) (d : DevS) : PgS × Bool := if (pini1 gs d).2 = true then (cnth (pini1 gs d).1, true) else pini1 gs d
section
variable {P : Program} {w : World} {K : PySem.W.Frag} {mg : Str → Option Value} {base : Heap} {c : Cl}
theorem pini1_dir (gs : List (List (Int × List Int))) (d : DevS) : (pini1 gs d).1.dir = [] := by
  unfold pini1 pckpt
  split
  · dsimp only; split <;> rfl
  · rfl
def sp_Pager_init (c : Cl) : Sp := fun vs H Q E => ∃ (p dx q : Addr) (Od : Addr → Prop) (d : DevS) (gs : List (List (Int × List Int))) (more : List (Int × List Int)) (j : Nat), vs = [.ref p, .ref q] ∧ H p = some (.ins c.Pager dx []) ∧ DevAt c H q Od d ∧ ¬ Od p ∧
  clog d = gs.flatMap wg ++ (wg more).take j ∧ j < (wg more).length ∧ (∀ g ∈ gs, Good g) ∧ Good more ∧ gs.length ≤ 1000 ∧ CkZ (pini0 gs d) ∧ ((pini1 gs d).2 = true → (gpg (pini1 gs d).1 0).length = 256) ∧
  spP c H p q (fun b => b = p ∨ Od b) (pinit gs d) (Q .non) E
theorem mk_Pager (T : Txt K mg c) : GC P w K mg base (L2.CX P w) 6 "Pager" c.Pager (sp_Pager_init c) := by
  obtain ⟨f, fd, F, gf, gi⟩ := T.f_Pager___init__
  have tc_Device := T.cl_Device; have tn_Device_pages := T.n_Device_pages; have tn_Device_page_writes := T.n_Device_page_writes; have tn_Device_durable_log := T.n_Device_durable_log; have tn_Device_log_steps := T.n_Device_log_steps; have tn_Device_done := T.n_Device_done; have tn_Device_most := T.n_Device_most
  have tc_Pager := T.cl_Pager; have tn_Pager_device := T.n_Pager_device; have tn_Pager_committed := T.n_Pager_committed; have tn_Pager_dirty := T.n_Pager_dirty
  refine ⟨f, fd, ["self", "device"], F.okX sc_Pager___init__ ?_ (fun cdv A outer s0 H vs Q E hr h => ?_), ⟨T.mk_Pager.1, gf, gi, T.mk_Pager.2⟩, T.mg_Pager, (F.binds (ps := ["self", "device"]) fun _ _ _ _ _ _ us hl => match us, hl with | [_, _], _ => rfl)⟩
  · rintro vs H Q E ⟨_, _, _, _, _, _, _, _, rfl, _⟩
    rfl
  · obtain ⟨p, dx, q, Od, d, gs, more, j, rfl, hp, hd, nop, elog, hj, hgs, hm, lgs, pz, hpg, k⟩ := h
    refine ⟨_, (pss_cons (ps_fld (pv 0) (pv 1) rfl)
      (pss_cons (ps_fld (pv 0) pe_dnewK rfl)
      (pss_cons (ps_fld (pv 0) pe_dnewK rfl)
      (pss_cons (ps_set (i := 2) sc_Pager___init__.nd rfl (Or.inl rfl) (pe_gm0 T.cl_Device (ok_Device_log T) (pv 1) (hr.mono (by decide)) pass0S))
      (pss_cons (ps_for (passes_of rfl) rfl (pi_listK rfl (pe_g (ok_read_groups T) (hr.mono (by decide)) pass0S (pa_cons (pv 2) pa_nil))) (pg_name (i := 3) sc_Pager___init__.nd rfl (Or.inl rfl)) (pss_one (ps_for (passes_of rfl) rfl (pi_listK rfl (pv 3)) (pg_kT rfl (pg_tup (n := 2) rfl (pgs_cons (pg_name (i := 4) sc_Pager___init__.nd rfl (Or.inl rfl)) (pgs_cons (pg_name (i := 5) sc_Pager___init__.nd rfl (Or.inl rfl)) pgs_nil)))) (pss_one (ps_dput (hu_of hr) (pe_fldK rfl (pv 0)) (pv 4) (pv 5) rfl)))))
      (C8.pss_cut (ps_if (pt_cmpR op_gt (pe_callB (r := rLenQ K) c_len (by rfl) T.z_len PySem.boot_len (pa_cons (pv 2) pa_nil)) pe_int (nomark _)) (pss_one (ps_expr (pe_gm0 T.cl_Pager (ok_Pager_checkpoint T) (pv 0) (hr.mono (by decide)) (passE (E := E) rfl rfl rfl rfl)))) pss_nil)
      (pss_one (ps_expr (pe_gm0 T.cl_Pager (ok_Pager_count_head T) (pv 0) (hr.mono (by decide)) pass0S))))))))), ?_⟩
    walk_at "cx"
    walk_at "rd"
    intro H1 p1 k1
    walk_at "rd"
    refine x_dnew fun a1 H2 ha1 k2 e1 => ?_
    have n1 : p ≠ a1 := ne_of_none p1 ha1
    walk_at "rd"
    intro H3 p3 k3
    have e13 := k3.get e1 n1.symm
    walk_at "rd"
    refine x_dnew fun a2 H4 ha2 k4 e2 => ?_
    have n2 : p ≠ a2 := ne_of_none p3 ha2
    have n12 : a1 ≠ a2 := ne_of_none e13 ha2
    walk_at "rd"
    intro H5 p5 k5
    have e15 := k5.get (k4.get e13 id) n1.symm
    have e25 := k5.get e2 n2.symm
    have k13 : Kp (F1 p) H H3 := ((k1.trans k2 fun _ z => z.elim).trans k3 fun _ z => .inl z)
    have k05 : Kp (F1 p) H H5 := (k13.trans k4 fun _ z => z.elim).trans k5 fun _ z => .inl z
    have fa1 : H a1 = none := k1.free ha1 n1.symm
    have fa2 : H a2 = none := k13.free ha2 n2.symm
    have V5 := hd.off k05 fun b z o => nop (by rw [← z]; exact o)
    obtain ⟨⟨dx2, b1, b2, b3, b4, kvs, ws, DD⟩, _⟩ := id V5
    have hq := DD.o
    generalize eO : (fun x => (x = p ∨ Od x) ∨ H x = none) = O
    have D5 : PagA c O Od H5 p q dx a1 a2 [] [] { dev := d, com := [], dir := [] } := by
      refine ⟨p5, V5, e15, .nil, e25, .nil, n12, nop, fun z => hd.fresh fa1 z, fun z => hd.fresh fa2 z, fun b z => ?_⟩
      rw [← eO]
      rcases z with z | z | z | z
      · exact .inl (.inl z)
      · rw [z]; exact .inr fa1
      · rw [z]; exact .inr fa2
      · exact .inl (.inr z)
    have pzw := pz.w; have pzp := pz.p; have pzl := pz.l
    have smd : Sml d := ⟨by show (pini0 gs d).dev.writes.length ≤ _; omega, by show (pini0 gs d).dev.pages.length + (pini0 gs d).dev.writes.length ≤ _; omega, by show (pini0 gs d).dev.log.length + (pini0 gs d).dev.steps.length ≤ _; omega, pz.z1, pz.z2⟩
    walk_at "rd"
    refine ⟨q, Od, d, rfl, V5, smd, fun lg H6 hlg k6 e6 => ?_⟩
    walk_at "rd"
    refine ⟨lg, clog d, gs, more, j, rfl, SqL.of e6, elog, hj, hgs, hm, by omega, fun r H7 hr7 k7 hr => ?_⟩
    have D6 := D5.same k6
    have D7 := D6.same k7
    have e67 := k7.get e6 id
    obtain ⟨vs, er, or, hv⟩ := id hr
    have k06 : Kp (F1 p) H H6 := k05.trans k6 fun _ z => z.elim
    have k07 : Kp (F1 p) H H7 := k06.trans k7 fun _ z => z.elim
    have na1 : ∀ b, H6 b = none → b ≠ a1 := fun b hb z => by
      have := D6.h1
      rw [← z, hb] at this; cases this
    walk_at "rd"
    refine wfor Wk.list (fun i σ H' => ∃ k1' u3 u4 u5, σ = [some (.ref p), some (.ref q), some (.ref lg), u3, u4, u5] ∧ PagA c O Od H' p q dx a1 a2 k1' [] { dev := d, com := (gs.take i).foldl puts [], dir := [] } ∧ k1'.length ≤ 60 * i ∧ Kp (F1 a1) H7 H')
      ⟨[], none, none, none, rfl, D7, Nat.le_refl _, Kp.refl _⟩ (fun i σ H' ⟨_, _, _, _, _, _, _, kk⟩ => SqL.of (kk.get er (na1 _ or))) ?_ ?_
    · rintro i x σ H8 ex ⟨k1', u3, u4, u5, rfl, D8, l8, kk8⟩
      obtain ⟨g, eg, hg⟩ := pgt hv ex
      have gg := hgs g (List.mem_of_getElem? eg)
      obtain ⟨a, ws2, rfl, ha, oa, hw⟩ := hg.kp kk8 fun b _ _ o => na1 b o
      walk_at "rd"
      refine wfor Wk.list (fun t σ H' => ∃ k1' u4 u5, σ = [some (.ref p), some (.ref q), some (.ref lg), some (.ref a), u4, u5] ∧ PagA c O Od H' p q dx a1 a2 k1' [] { dev := d, com := (g.take t).foldl (fun l q => aput l q.1 q.2) ((gs.take i).foldl puts []), dir := [] } ∧ k1'.length ≤ 60 * i + t ∧ Kp (F1 a1) H7 H' ∧ Kp (F1 a1) H8 H')
        ⟨k1', u4, u5, rfl, D8, l8, kk8, Kp.refl _⟩ (fun i σ H' ⟨_, _, _, _, _, _, _, kk⟩ => SqL.of (kk.get ha (na1 _ oa))) ?_ ?_
      · rintro t y σ H9 ey ⟨k1'', u4, u5, rfl, D9, l9, kk9, kk89⟩
        obtain ⟨r', er', tp, l, rfl, ht, hl, ol⟩ := pgt hw ey
        have ht9 := kk89.tup ht
        have hl9 := kk89.get hl (na1 _ ol)
        have ho9 := D9.o
        have h19 := D9.h1
        have lt : t < g.length := (List.getElem?_eq_some_iff.mp er').1
        have := gg.n
        have li : i < gs.length := (List.getElem?_eq_some_iff.mp eg).1
        walk_at "rd"
        refine x_dpI h19 (by omega) fun H10 e10 k10 => ?_
        have D10 := D9.put1 (ds := r'.2) ⟨hl9, by rw [← eO]; exact .inr (k06.free ol fun z => by rw [z, D6.o] at ol; cases ol), D6.fresh ol⟩ k10 e10
        have l10 := D10.p1.length
        have l11 := aput_len ((g.take t).foldl (fun l q => aput l q.1 q.2) ((gs.take i).foldl puts [])) r'.1 r'.2
        have l12 := D9.p1.length
        refine ⟨putK k1'' (.inl r'.1) (.ref l), some (.int r'.1), some (.ref l), rfl, ?_, ?_, kk9.trans k10 fun _ z => .inl z, kk89.trans k10 fun _ z => .inl z⟩
        · rw [List.take_succ, er', List.foldl_append]
          exact D10
        · rw [l10]
          refine Nat.le_trans l11 ?_
          rw [← show k1''.length = _ from l12]
          omega
      · rintro σ H9 ⟨k1'', u4, u5, rfl, D9, l9, kk9, kk89⟩
        rw [show ws2.length = g.length from hw.length] at D9 l9
        rw [List.take_length] at D9
        refine ⟨k1'', some (.ref a), u4, u5, rfl, ?_, by have := gg.n; omega, kk9⟩
        rw [List.take_succ, eg, List.foldl_append]
        exact D9
    · rintro σ H8 ⟨k1', u3, u4, u5, rfl, D8, l8, kk8⟩
      rw [show vs.length = gs.length from hv.length, List.take_length] at D8
      have e68 := kk8.get e67 (fun z => by
        have := D7.h1
        rw [← z, e67] at this; cases this)
      have k08 : Kp (fun b => b = p ∨ Od b) H H8 := (k07.mono fun _ z => .inl (.inl z)).trans kk8 fun x z => .inr (by rw [z]; exact fa1)
      have P8 : PagAt c H8 p q (nO (fun b => b = p ∨ Od b) H H8) Od (pini0 gs d) := D8.clo eO.symm
      have S8 : Stp (fun b => b = p ∨ Od b) (nO (fun b => b = p ∨ Od b) H H8) H H8 := Stp.nO k08 fun _ z => z
      have ho8 := D8.o
      walk_at "rd"
      refine x_cut (fun σ' H' => ∃ O' Od' u3 u4 u5, σ' = [some (.ref p), some (.ref q), some (.ref lg), u3, u4, u5] ∧ (pini1 gs d).2 = true ∧ PagAt c H' p q O' Od' (pini1 gs d).1 ∧ Stp (fun b => b = p ∨ Od b) O' H H') ?_ ?_
      · walk_at "rd"
        rw [List.length_map]
        refine ite_dec (fun e => ?_) fun e => ?_
        · have ei : pini1 gs d = pckpt (pini0 gs d) := by unfold pini1; rw [if_pos (by omega)]
          walk_at "rd"
          refine ⟨p, q, _, Od, _, rfl, P8, pz, fun H9 O9 Od9 P9 s9 => ?_⟩
          rw [← ei] at P9 ⊢
          refine ite_bool (fun e9 => ?_) fun e9 => ?_
          · exact ⟨O9, Od9, u3, u4, u5, rfl, e9, P9, S8.trans s9⟩
          · have ep : pinit gs d = ((pini1 gs d).1, false) := by unfold pinit; rw [if_neg (by rw [e9]; exact Bool.false_ne_true)]; rw [← e9]
            exact k.no ep P9 (S8.trans s9)
        · have ei : pini1 gs d = (pini0 gs d, true) := by unfold pini1; rw [if_neg (by omega)]
          exact ⟨_, Od, u3, u4, u5, rfl, by rw [ei], by rw [ei]; exact P8, S8⟩
      · rintro σ' H9 ⟨O9, Od9, u3, u4, u5, rfl, e9, P9, s9⟩
        obtain ⟨⟨dx, a1, a2, k1, k2, D9⟩, _⟩ := id P9
        have ho9 := D9.o
        have ep : pinit gs d = (cnth (pini1 gs d).1, true) := by unfold pinit; rw [if_pos e9]
        walk_at "rd"
        refine ⟨p, q, O9, Od9, _, rfl, P9, by rw [pini1_dir]; exact Nat.zero_le _, hpg e9, fun H10 O10 P10 s10 => ?_⟩
        exact k.yes ep P10 (s9.trans s10)
end
/-! ### views of a pager, in plain Lean -/
def vf (v : Int → List Int) (k : Nat) : Int := rn (((v 0).drop (4 * k)).take 4)
def vput (v : Int → List Int) (n : Int) (ds : List Int) : Int → List Int := fun m => if m = n then ds else v m
def vset (v : Int → List Int) (k : Nat) (x : Int) : Int → List Int := vput v 0 (spl (v 0) k x)
def vcn (v : Int → List Int) : Int → List Int := if vf v 6 = 0 then vset v 6 1 else v
theorem fld_vf (s : PgS) (k : Nat) : fld s k = vf (gpg s) k := rfl
theorem gpg_pwr (s : PgS) (n : Int) (ds : List Int) : gpg (pwr n ds s) = vput (gpg s) n ds := by
  funext m; unfold vput
  by_cases e : m = n
  · rw [if_pos e, e, gpg_eq]
  · rw [if_neg e, gpg_ne _ _ e]
theorem gpg_set (s : PgS) (k : Nat) (x : Int) : gpg (setf k x s) = vset (gpg s) k x := gpg_pwr _ _ _
theorem gpg_cnth (s : PgS) : gpg (cnth s) = vcn (gpg s) := by
  unfold cnth vcn; rw [fld_vf]
  split
  · exact gpg_set _ _ _
  · rfl
theorem spl_fld {ds : List Int} {k j : Nat} {x : Int} (h0 : 0 ≤ x) (h1 : x < 256 ^ 4) (hk : 4 * (k + 1) ≤ ds.length) :
    rn (((spl ds k x).drop (4 * j)).take 4) = if j = k then x else rn ((ds.drop (4 * j)).take 4) := by
  have l1 : (ds.take (4 * k)).length = 4 * k := by rw [List.length_take]; omega
  have l2 : (ds.take (4 * k) ++ wn 4 x).length = 4 * (k + 1) := by rw [List.length_append, l1, wn_len]; omega
  by_cases e : j = k
  · subst e
    rw [if_pos rfl]
    unfold spl
    rw [List.append_assoc, List.drop_left' l1, List.take_left' (wn_len 4 x), rn_wn 4 x h0 h1]
  · rw [if_neg e]
    congr 1
    unfold spl
    by_cases q : j < k
    · rw [List.append_assoc, List.drop_append_of_le_length (by omega), List.take_append_of_le_length (by rw [List.length_drop]; omega), List.drop_take, List.take_take, show min 4 (4 * k - 4 * j) = 4 by omega]
    · rw [List.drop_append, List.drop_eq_nil_of_le (by omega), List.nil_append, l2, List.drop_drop, show 4 * (k + 1) + (4 * j - 4 * (k + 1)) = 4 * j by omega]
theorem vset_vf {v : Int → List Int} {k j : Nat} {x : Int} (h0 : 0 ≤ x) (h1 : x < 256 ^ 4) (hk : 4 * (k + 1) ≤ (v 0).length) : vf (vset v k x) j = if j = k then x else vf v j := by
  unfold vf vset vput
  rw [if_pos rfl]
  exact spl_fld h0 h1 hk
theorem vset_ne (v : Int → List Int) (k : Nat) (x : Int) {n : Int} (h : n ≠ 0) : vset v k x n = v n := if_neg h
theorem vput_vf (v : Int → List Int) {n : Int} (ds : List Int) (h : n ≠ 0) (k : Nat) : vf (vput v n ds) k = vf v k := by
  unfold vf vput; rw [if_neg (Ne.symm h)]
theorem vput_ne (v : Int → List Int) {n m : Int} (ds : List Int) (h : m ≠ n) : vput v n ds m = v m := if_neg h
theorem vput_eq (v : Int → List Int) (n : Int) (ds : List Int) : vput v n ds n = ds := if_pos rfl
/-- the law's model -/
structure LM where
  pgs : List (Int × List Int)
  many : Int
  free : List Int
  taken : List Int
def Chain (f : Int → Int) : Int → List Int → Prop
  | h, [] => h = 0
  | h, n :: r => h = n ∧ Chain f (f n) r
theorem Chain.mono {f g : Int → Int} : ∀ {l : List Int} {h : Int}, (∀ n ∈ l, f n = g n) → Chain f h l → Chain g h l
  | [], _, _, c => c
  | n :: r, _, e, c => ⟨c.1, by rw [← e n (by simp)]; exact Chain.mono (fun m hm => e m (List.mem_cons_of_mem _ hm)) c.2⟩
theorem Chain.head {f : Int → Int} {h : Int} : ∀ {l : List Int}, Chain f h l → h = (l ++ [0]).headD 0
  | [], c => c
  | _ :: _, c => c.1
structure Rel (i : Nat) (v : Int → List Int) (M : LM) : Prop where
  z : ∀ n, (v n).length = 256
  many : vf v 6 = M.many
  chain : Chain (fun n => rn ((v n).take 4)) (vf v 7) M.free
  head : aget M.pgs 0 = some [vf v 3]
  tk : ∀ n ∈ M.taken, aget M.pgs n = some (v n)
  nd : (M.free ++ M.taken).Nodup
  rg : ∀ n ∈ M.free ++ M.taken, 1 ≤ n ∧ n < M.many
  m1 : 1 ≤ M.many
  mb : M.many ≤ 1 + i
  pl : M.pgs.length ≤ 1 + 2 * i
  fl : M.free.length + M.taken.length ≤ i
theorem Rel.up {i : Nat} {v : Int → List Int} {M : LM} (h : Rel i v M) : Rel (i + 1) v M :=
  ⟨h.z, h.many, h.chain, h.head, h.tk, h.nd, h.rg, h.m1, by have := h.mb; omega, by have := h.pl; omega, by have := h.fl; omega⟩
theorem Rel.ne0 {i : Nat} {v : Int → List Int} {M : LM} (h : Rel i v M) {n : Int} (hn : n ∈ M.free ++ M.taken) : n ≠ 0 := by have := (h.rg n hn).1; omega
/-- field 3 is set -/
theorem Rel.three {i : Nat} {v : Int → List Int} {M : LM} {x : Int} (h : Rel i v M) (h0 : 0 ≤ x) (h1 : x < 256 ^ 4) : Rel (i + 1) (vset v 3 x) { M with pgs := aput M.pgs 0 [x] } := by
  have hz : 4 * (3 + 1) ≤ (v 0).length := by rw [h.z]; decide
  have f : ∀ j, vf (vset v 3 x) j = if j = 3 then x else vf v j := fun j => vset_vf h0 h1 hz
  refine ⟨fun n => ?_, ?_, ?_, ?_, fun n hn => ?_, h.nd, h.rg, h.m1, h.up.mb, ?_, h.up.fl⟩
  · by_cases e : n = 0
    · subst e; unfold vset; rw [vput_eq, spl_len hz]; exact h.z 0
    · rw [vset_ne _ _ _ e]; exact h.z n
  · rw [f]; exact h.many
  · rw [f]
    exact h.chain.mono fun n hn => by
      show rn ((v n).take 4) = rn ((vset v 3 x n).take 4)
      rw [vset_ne _ _ _ (h.ne0 (List.mem_append.mpr (.inl hn)))]
  · rw [f]; exact aget_put_eq _ _ _
  · rw [aget_put_ne _ _ (h.ne0 (List.mem_append.mpr (.inr hn))), vset_ne _ _ _ (h.ne0 (List.mem_append.mpr (.inr hn)))]
    exact h.tk n hn
  · have := aput_len M.pgs 0 [x]; have := h.pl; show (aput M.pgs 0 [x]).length ≤ _; omega
/-- a taken page is written -/
theorem Rel.write {i : Nat} {v : Int → List Int} {M : LM} {n : Int} {ds : List Int} (h : Rel i v M) (hn : n ∈ M.taken) (hl : ds.length = 256) : Rel (i + 1) (vput v n ds) { M with pgs := aput M.pgs n ds } := by
  have n0 := h.ne0 (List.mem_append.mpr (.inr hn))
  have dis : ∀ m ∈ M.free, m ≠ n := fun m hm e => by
    subst e
    exact (List.nodup_append.mp h.nd).2.2 m hm m hn rfl
  refine ⟨fun m => ?_, ?_, ?_, ?_, fun m hm => ?_, h.nd, h.rg, h.m1, h.up.mb, ?_, h.up.fl⟩
  · unfold vput; split
    · exact hl
    · exact h.z m
  · rw [vput_vf _ _ n0]; exact h.many
  · rw [vput_vf _ _ n0]
    exact h.chain.mono fun m hm => by
      show rn ((v m).take 4) = rn ((vput v n ds m).take 4)
      rw [vput_ne _ _ (dis m hm)]
  · rw [vput_vf _ _ n0, aget_put_ne _ _ n0.symm]; exact h.head
  · by_cases e : m = n
    · subst e; rw [aget_put_eq, vput_eq]
    · rw [aget_put_ne _ _ e, vput_ne _ _ e]; exact h.tk m hm
  · have := aput_len M.pgs n ds; have := h.pl; show (aput M.pgs n ds).length ≤ _; omega
theorem zeros_len : zeros.length = 256 := by unfold zeros; rw [List.length_replicate]
/-- a new page -/
theorem Rel.grow {i : Nat} {v : Int → List Int} {M : LM} (h : Rel i v M) (hf : M.free = []) (hi : i ≤ 1000) : Rel (i + 1) (vput (vset v 6 (vf v 6 + 1)) (vf v 6) zeros) { pgs := aput M.pgs M.many zeros, many := M.many + 1, free := [], taken := M.taken ++ [M.many] } := by
  have hz : 4 * (6 + 1) ≤ (v 0).length := by rw [h.z]; decide
  have m1 := h.m1; have mb := h.mb
  rw [h.many]
  have n0 : M.many ≠ 0 := by omega
  have f : ∀ j, vf (vput (vset v 6 (M.many + 1)) M.many zeros) j = if j = 6 then M.many + 1 else vf v j := fun j => by
    rw [vput_vf _ _ n0]; exact vset_vf (by omega) (by omega) hz
  have nd := h.nd
  rw [hf, List.nil_append] at nd
  have rg := h.rg
  rw [hf, List.nil_append] at rg
  refine ⟨fun n => ?_, ?_, ?_, ?_, fun n hn => ?_, ?_, fun n hn => ?_, by show (1 : Int) ≤ M.many + 1; omega, by show M.many + 1 ≤ 1 + ((i + 1 : Nat) : Int); omega, ?_, ?_⟩
  · unfold vput; split
    · exact zeros_len
    · unfold vset vput; split
      · rw [spl_len hz]; exact h.z 0
      · exact h.z n
  · rw [f, if_pos rfl]
  · rw [f]
    have := h.chain
    rw [hf] at this
    exact this
  · rw [f]; show aget (aput M.pgs M.many zeros) 0 = _; rw [aget_put_ne _ _ n0.symm]; exact h.head
  · show aget (aput M.pgs M.many zeros) n = _
    rcases List.mem_append.mp hn with hn | hn
    · have := rg n hn
      rw [aget_put_ne _ _ (by omega), vput_ne _ _ (by omega), vset_ne _ _ _ (by omega)]; exact h.tk n hn
    · rw [List.mem_singleton.mp hn, aget_put_eq, vput_eq]
  · show (([] : List Int) ++ (M.taken ++ [M.many])).Nodup
    rw [List.nil_append, List.nodup_append]
    refine ⟨nd, by simp, fun a ha b hb => ?_⟩
    rw [List.mem_singleton.mp hb]
    have := rg a ha
    omega
  · have hn : n ∈ M.taken ++ [M.many] := hn
    show 1 ≤ n ∧ n < M.many + 1
    rcases List.mem_append.mp hn with hn | hn
    · have := rg n hn; omega
    · rw [List.mem_singleton.mp hn]; omega
  · have := aput_len M.pgs M.many zeros; have := h.pl; show (aput M.pgs M.many zeros).length ≤ _; omega
  · have := h.fl; rw [hf] at this
    show 0 + (M.taken ++ [M.many]).length ≤ i + 1
    rw [List.length_append]; simp only [List.length_nil, List.length_singleton] at *; omega
/-- the first free page -/
theorem Rel.reuse {i : Nat} {v : Int → List Int} {M : LM} {n : Int} {r : List Int} (h : Rel i v M) (hf : M.free = n :: r) (hi : i ≤ 1000) :
    vf v 7 = n ∧ n ≠ 0 ∧ Rel (i + 1) (vput (vset v 7 (rn ((v n).take 4))) n zeros) { pgs := aput M.pgs n zeros, many := M.many, free := r, taken := M.taken ++ [n] } := by
  have hz : 4 * (7 + 1) ≤ (v 0).length := by rw [h.z]; decide
  have m1 := h.m1; have mb := h.mb
  have c := h.chain
  rw [hf] at c
  have nd := h.nd
  rw [hf] at nd
  have rg := h.rg
  rw [hf] at rg
  have n0 : n ≠ 0 := by have := (rg n (by simp)).1; omega
  have hx := c.2.head
  have xb : 0 ≤ rn ((v n).take 4) ∧ rn ((v n).take 4) < 256 ^ 4 := by
    show 0 ≤ (fun n => rn ((v n).take 4)) n ∧ (fun n => rn ((v n).take 4)) n < 256 ^ 4
    rw [hx]
    cases r with
    | nil => exact ⟨by decide, by decide⟩
    | cons y r => have := rg y (by simp); show 0 ≤ y ∧ y < 256 ^ 4; omega
  have f : ∀ j, vf (vput (vset v 7 (rn ((v n).take 4))) n zeros) j = if j = 7 then rn ((v n).take 4) else vf v j := fun j => by
    rw [vput_vf _ _ n0]; exact vset_vf xb.1 xb.2 hz
  have dis : ∀ m ∈ r, m ≠ n := fun m hm e => by
    subst e
    rw [List.cons_append, List.nodup_cons] at nd
    exact nd.1 (List.mem_append.mpr (.inl hm))
  have dis2 : ∀ m ∈ M.taken, m ≠ n := fun m hm e => by
    subst e
    rw [List.cons_append, List.nodup_cons] at nd
    exact nd.1 (List.mem_append.mpr (.inr hm))
  refine ⟨c.1, n0, fun m => ?_, ?_, ?_, ?_, fun m hm => ?_, ?_, fun m hm => ?_, m1, h.up.mb, ?_, ?_⟩
  · unfold vput; split
    · exact zeros_len
    · unfold vset vput; split
      · rw [spl_len hz]; exact h.z 0
      · exact h.z m
  · rw [f]; exact h.many
  · rw [f, if_pos rfl]
    exact c.2.mono fun m hm => by
      have m0 := (rg m (by simp [hm])).1
      show rn ((v m).take 4) = rn ((vput (vset v 7 (rn ((v n).take 4))) n zeros m).take 4)
      rw [vput_ne _ _ (dis m hm), vset_ne _ _ _ (by omega)]
  · rw [f]; show aget (aput M.pgs n zeros) 0 = _; rw [aget_put_ne _ _ n0.symm]; exact h.head
  · show aget (aput M.pgs n zeros) m = _
    rcases List.mem_append.mp hm with hm | hm
    · have m0 := (rg m (by simp [hm])).1
      rw [aget_put_ne _ _ (dis2 m hm), vput_ne _ _ (dis2 m hm), vset_ne _ _ _ (by omega)]; exact h.tk m hm
    · rw [List.mem_singleton.mp hm, aget_put_eq, vput_eq]
  · show (r ++ (M.taken ++ [n])).Nodup
    have p : (r ++ (M.taken ++ [n])).Perm (n :: r ++ M.taken) := by
      rw [← List.append_assoc]; exact List.perm_append_singleton n (r ++ M.taken)
    exact p.nodup_iff.mpr nd
  · have hm : m ∈ r ++ (M.taken ++ [n]) := hm
    refine rg m ?_
    simp only [List.mem_append, List.mem_cons, List.mem_singleton, List.not_mem_nil, or_false] at hm ⊢
    rcases hm with q | q | q
    · exact .inl (.inr q)
    · exact .inr q
    · exact .inl (.inl q)
  · have := aput_len M.pgs n zeros; have := h.pl; show (aput M.pgs n zeros).length ≤ _; omega
  · have q : (n :: r).length + M.taken.length ≤ i := by rw [← hf]; exact h.fl
    rw [List.length_cons] at q
    show r.length + (M.taken ++ [n]).length ≤ i + 1
    rw [List.length_append, List.length_singleton]; omega
theorem erase_perm : ∀ {l : List Int} {j : Nat} {n : Int}, l[j]? = some n → (n :: l.eraseIdx j).Perm l
  | x :: l, 0, n, h => by
    simp only [List.getElem?_cons_zero, Option.some.injEq] at h
    subst h
    exact List.Perm.refl _
  | x :: l, j + 1, n, h => by
    rw [List.getElem?_cons_succ] at h
    exact (List.Perm.swap x n _).trans ((erase_perm h).cons x)
  | [], _, _, h => by simp at h
/-- a taken page is released -/
theorem Rel.rel {i : Nat} {v : Int → List Int} {M : LM} {n : Int} {j : Nat} (h : Rel i v M) (hn : M.taken[j]? = some n) (hi : i ≤ 1000) :
    Rel (i + 1) (vset (vput v n (wn 4 (vf v 7) ++ List.replicate 252 0)) 7 n) { M with free := n :: M.free, taken := M.taken.eraseIdx j } := by
  have m1 := h.m1; have mb := h.mb
  have hm := List.mem_of_getElem? hn
  have rn' := h.rg n (List.mem_append.mpr (.inr hm))
  have n0 : n ≠ 0 := by omega
  have lw : (wn 4 (vf v 7) ++ List.replicate 252 (0 : Int)).length = 256 := by rw [List.length_append, wn_len, List.length_replicate]
  have v0 : vput v n (wn 4 (vf v 7) ++ List.replicate 252 0) 0 = v 0 := vput_ne _ _ n0.symm
  have hz : 4 * (7 + 1) ≤ (vput v n (wn 4 (vf v 7) ++ List.replicate 252 0) 0).length := by rw [v0, h.z]; decide
  have f : ∀ j, vf (vset (vput v n (wn 4 (vf v 7) ++ List.replicate 252 0)) 7 n) j = if j = 7 then n else vf v j := fun j => by
    rw [vset_vf (by omega) (by omega) hz, vput_vf _ _ n0]
  have x7 : 0 ≤ vf v 7 ∧ vf v 7 < 256 ^ 4 := by
    have c := h.chain.head
    rw [c]
    cases e : M.free with
    | nil => exact ⟨by decide, by decide⟩
    | cons y r => have := h.rg y (by rw [e]; simp); show 0 ≤ y ∧ y < 256 ^ 4; omega
  have hj : j < M.taken.length := (List.getElem?_eq_some_iff.mp hn).1
  have hg : M.taken[j] = n := (List.getElem?_eq_some_iff.mp hn).2
  have pt : (n :: M.taken.eraseIdx j).Perm M.taken := erase_perm hn
  have p : (n :: M.free ++ M.taken.eraseIdx j).Perm (M.free ++ M.taken) := (List.perm_middle.symm).trans (List.Perm.append_left _ pt)
  have nd' : (n :: M.free ++ M.taken.eraseIdx j).Nodup := p.nodup_iff.mpr h.nd
  have ni : n ∉ M.free ++ M.taken.eraseIdx j := by rw [List.cons_append, List.nodup_cons] at nd'; exact nd'.1
  refine ⟨fun m => ?_, ?_, ?_, ?_, fun m hm' => ?_, nd', fun m hm' => h.rg m (p.mem_iff.mp hm'), m1, h.up.mb, h.up.pl, ?_⟩
  · unfold vset
    by_cases e : m = 0
    · subst e; rw [vput_eq, spl_len hz, v0]; exact h.z 0
    · rw [vput_ne _ _ e]; unfold vput; split
      · exact lw
      · exact h.z m
  · rw [f]; exact h.many
  · rw [f, if_pos rfl]
    refine ⟨rfl, ?_⟩
    have e : rn ((vset (vput v n (wn 4 (vf v 7) ++ List.replicate 252 0)) 7 n n).take 4) = vf v 7 := by
      rw [vset_ne _ _ _ n0, vput_eq, List.take_left' (wn_len 4 _)]
      exact rn_wn 4 _ x7.1 x7.2
    show Chain _ (rn ((vset (vput v n (wn 4 (vf v 7) ++ List.replicate 252 0)) 7 n n).take 4)) M.free
    rw [e]
    exact h.chain.mono fun m hm' => by
      have m0 := (h.rg m (List.mem_append.mpr (.inl hm'))).1
      have mn : m ≠ n := fun z => ni (by rw [← z]; exact List.mem_append.mpr (.inl hm'))
      show rn ((v m).take 4) = rn ((vset (vput v n (wn 4 (vf v 7) ++ List.replicate 252 0)) 7 n m).take 4)
      rw [vset_ne _ _ _ (by omega), vput_ne _ _ mn]
  · rw [f]; exact h.head
  · have hm2 : m ∈ M.taken := List.mem_of_mem_eraseIdx hm'
    have m0 := (h.rg m (List.mem_append.mpr (.inr hm2))).1
    have mn : m ≠ n := fun z => ni (by rw [← z]; exact List.mem_append.mpr (.inr hm'))
    rw [vset_ne _ _ _ (by omega), vput_ne _ _ mn]
    exact h.tk m hm2
  · have := h.fl
    show (n :: M.free).length + (M.taken.eraseIdx j).length ≤ i + 1
    rw [List.length_eraseIdx_of_lt hj, List.length_cons]; omega
/-! ### a pager whose device has power without end -/
def Zc (l : List (Int × List Int)) : Prop := ∀ q ∈ l, q.2.length = 256
theorem aput_zc {l : List (Int × List Int)} {n : Int} {ds : List Int} (h : Zc l) (hd : ds.length = 256) : Zc (aput l n ds) := by
  intro q hq
  unfold aput at hq
  split at hq
  · obtain ⟨r, hr, rfl⟩ := List.mem_map.mp hq
    split
    · exact hd
    · exact h r hr
  · rcases List.mem_append.mp hq with hq | hq
    · exact h q hq
    · rw [List.mem_singleton.mp hq]; exact hd
theorem aget_mem' {l : List (Int × List Int)} {n : Int} {d : List Int} (h : aget l n = some d) : (n, d) ∈ l := by
  unfold aget at h
  cases z : l.find? fun q => decide (q.1 = n) with
  | none => rw [z] at h; cases h
  | some r =>
    rw [z] at h
    have h2 := List.find?_some z
    simp only [decide_eq_true_eq] at h2
    cases h
    rw [← h2]; exact List.mem_of_find?_eq_some z
theorem aput_mem {l : List (Int × List Int)} {n : Int} {ds : List Int} {q : Int × List Int} (h : q ∈ aput l n ds) : q ∈ l ∨ q = (n, ds) := by
  unfold aput at h
  split at h
  · obtain ⟨r, hr, rfl⟩ := List.mem_map.mp h
    split
    · rename_i e; exact .inr (by rw [e])
    · exact .inl hr
  · rcases List.mem_append.mp h with h | h
    · exact .inl h
    · exact .inr (List.mem_singleton.mp h)
/-- many puts by keys -/
def kput (f : Int → List Int) (ks : List Int) (m : List (Int × List Int)) : List (Int × List Int) := ks.foldl (fun a k => aput a k (f k)) m
theorem aget_kput (f : Int → List Int) : ∀ (ks : List Int) (m : List (Int × List Int)) (n : Int), aget (kput f ks m) n = if n ∈ ks then some (f n) else aget m n
  | [], m, n => by simp [kput]
  | k :: ks, m, n => by
    show aget (kput f ks (aput m k (f k))) n = _
    rw [aget_kput f ks]
    by_cases h : n ∈ ks
    · rw [if_pos h, if_pos (List.mem_cons_of_mem _ h)]
    · rw [if_neg h]
      by_cases e : n = k
      · subst e; rw [aget_put_eq, if_pos (by simp)]
      · rw [aget_put_ne _ _ e, if_neg (by simp [e, h])]
theorem kput_len (f : Int → List Int) : ∀ (ks : List Int) (m : List (Int × List Int)), (kput f ks m).length ≤ m.length + ks.length
  | [], _ => Nat.le_refl _
  | k :: ks, m => by
    have h1 := kput_len f ks (aput m k (f k))
    have h2 := aput_len m k (f k)
    show (kput f ks (aput m k (f k))).length ≤ m.length + (ks.length + 1)
    omega
theorem kput_zc {f : Int → List Int} : ∀ {ks : List Int} {m : List (Int × List Int)}, Zc m → (∀ k ∈ ks, (f k).length = 256) → Zc (kput f ks m)
  | [], _, h, _ => h
  | k :: ks, m, h, g => kput_zc (ks := ks) (aput_zc h (g k (by simp))) fun x hx => g x (List.mem_cons_of_mem _ hx)
def fv (l : List (Int × List Int)) (n : Int) : List Int := (aget l n).getD []
theorem coms_k (l m : List (Int × List Int)) : coms l m = kput (fv l) (l.map (·.1)) m := by unfold coms kput fv; rw [List.foldl_map]
theorem puts_k (l m : List (Int × List Int)) : puts m (grp l) = kput (fv l) (skeys l) m := by unfold puts grp kput fv; rw [List.foldl_map]
theorem fv_z {l : List (Int × List Int)} (h : Zc l) {n : Int} (hn : n ∈ l.map (·.1)) : (fv l n).length = 256 := by
  obtain ⟨d, e, m⟩ := mem_skeys ((skeys_perm l).mem_iff.mpr hn)
  unfold fv; rw [e]; exact h _ m
theorem key_iff (l : List (Int × List Int)) (n : Int) : n ∈ l.map (·.1) ↔ aget l n ≠ none := by
  constructor
  · intro h z
    obtain ⟨d, e, _⟩ := mem_skeys ((skeys_perm l).mem_iff.mpr h)
    rw [z] at e; cases e
  · intro h
    cases e : aget l n with
    | none => exact absurd e h
    | some d => exact List.mem_map.mpr ⟨(n, d), aget_mem' e, rfl⟩
def orD (a b : Option (List Int)) : Option (List Int) := match a with
  | some d => some d
  | none => b
theorem aget_kf {l m : List (Int × List Int)} {ks : List Int} (h : ks.Perm (l.map (·.1))) (n : Int) : aget (kput (fv l) ks m) n = orD (aget l n) (aget m n) := by
  rw [aget_kput]
  by_cases e : n ∈ ks
  · rw [if_pos e]
    have := (key_iff l n).mp (h.mem_iff.mp e)
    cases z : aget l n with
    | none => exact absurd z this
    | some d => unfold fv; rw [z]; rfl
  · rw [if_neg e]
    cases z : aget l n with
    | none => rfl
    | some d => exact absurd (h.mem_iff.mpr ((key_iff l n).mpr (by rw [z]; exact fun y => by cases y))) e
theorem aget_coms (l m : List (Int × List Int)) (n : Int) : aget (coms l m) n = orD (aget l n) (aget m n) := by rw [coms_k]; exact aget_kf (List.Perm.refl _) n
theorem aget_pgrp (l m : List (Int × List Int)) (n : Int) : aget (puts m (grp l)) n = orD (aget l n) (aget m n) := by rw [puts_k]; exact aget_kf (skeys_perm l) n
theorem can_none {d : DevS} (h : d.most = none) : can d = true := by unfold can; rw [h]
theorem dApp_ok : ∀ (bs : List Int) (d : DevS), d.most = none → dApp bs d = ({ d with done := d.done + bs.length, steps := d.steps ++ bs.map some }, true)
  | [], d, h => by
    show (d, true) = _
    simp
  | b :: bs, d, h => by
    have e : dByte (some b) d = ({ d with done := d.done + 1, steps := d.steps ++ [some b] }, true) := by unfold dByte pw; rw [if_pos (can_none h)]
    show (if (dByte (some b) d).2 = true then dApp bs (dByte (some b) d).1 else (d, false)) = _
    rw [e, if_pos rfl, dApp_ok bs { d with done := d.done + 1, steps := d.steps ++ [some b] } h]
    simp only [Prod.mk.injEq, DevS.mk.injEq, true_and, and_true, List.map_cons, List.append_assoc, List.singleton_append, List.length_cons]
    omega
theorem fold_some (bs l : List Int) : (bs.map some).foldl lstep l = l ++ bs := by
  induction bs generalizing l with
  | nil => simp
  | cons b bs ih => rw [List.map_cons, List.foldl_cons, ih]; unfold lstep; simp
theorem dSyncL_ok {d : DevS} (h : d.most = none) : dSyncL d = ({ d with done := d.done + 1, log := clog d, steps := [] }, true) := by
  unfold dSyncL pw; rw [if_pos (can_none h)]; rfl
theorem dSyncP_ok {d : DevS} (h : d.most = none) : dSyncP d = ({ d with done := d.done + 1, pages := puts d.pages d.writes, writes := [] }, true) := by
  unfold dSyncP pw; rw [if_pos (can_none h)]; rfl
theorem dByte_ok {d : DevS} {b : Option Int} (h : d.most = none) : dByte b d = ({ d with done := d.done + 1, steps := d.steps ++ [b] }, true) := by
  unfold dByte pw; rw [if_pos (can_none h)]
theorem pwrites_ok : ∀ (ws : List (Int × List Int)) (d : DevS), d.most = none → pwrites ws d = ({ d with done := d.done + ws.length, writes := d.writes ++ ws }, true)
  | [], d, h => by
    show (d, true) = _
    simp
  | q :: ws, d, h => by
    have e : dWrite q.1 q.2 d = ({ d with done := d.done + 1, writes := d.writes ++ [(q.1, q.2)] }, true) := by unfold dWrite pw; rw [if_pos (can_none h)]
    show (if (dWrite q.1 q.2 d).2 = true then pwrites ws (dWrite q.1 q.2 d).1 else (d, false)) = _
    rw [e, if_pos rfl, pwrites_ok ws { d with done := d.done + 1, writes := d.writes ++ [(q.1, q.2)] } h]
    simp only [Prod.mk.injEq, DevS.mk.injEq, true_and, and_true, List.append_assoc, List.singleton_append, List.length_cons]
    omega
/-- a pager between calls: k bounds the pages since the last checkpoint, i the calls, gs the log's groups -/
structure PSt (k i : Nat) (s : PgS) (gs : List (List (Int × List Int))) : Prop where
  mo : s.dev.most = none
  w : s.dev.writes = []
  st : s.dev.steps = []
  lg : s.dev.log = gs.flatMap wg
  gd : ∀ g ∈ gs, Good g
  cv : ∀ n, aget s.com n = aget (gs.foldl puts []) n
  cz : Zc s.com
  pz : Zc s.dev.pages
  dz : ∀ q ∈ s.dir, q.2.length = 256 ∧ 0 ≤ q.1 ∧ q.1 < 256 ^ 4
  n1 : (gs.map List.length).sum + s.dir.length ≤ k
  n2 : s.com.length ≤ (gs.map List.length).sum
  n3 : s.dev.pages.length ≤ 64 * i
  n4 : gs.length ≤ i
theorem PSt.le {k k' i i' : Nat} {s : PgS} {gs : List (List (Int × List Int))} (h : PSt k i s gs) (hk : k ≤ k') (hi : i ≤ i') : PSt k' i' s gs :=
  ⟨h.mo, h.w, h.st, h.lg, h.gd, h.cv, h.cz, h.pz, h.dz, by have := h.n1; omega, h.n2, by have := h.n3; omega, by have := h.n4; omega⟩
theorem log_len : ∀ {gs : List (List (Int × List Int))}, (∀ g ∈ gs, Good g) → (gs.flatMap wg).length ≤ 15604 * gs.length
  | [], _ => Nat.le_refl _
  | g :: gs, h => by
    have h1 := log_len (gs := gs) fun x hx => h x (List.mem_cons_of_mem _ hx)
    have h2 := h g (by simp)
    have h3 := h2.n
    rw [List.flatMap_cons, List.length_append, wg_len h2, List.length_cons]
    omega
theorem PSt.pgz {k i : Nat} {s : PgS} {gs : List (List (Int × List Int))} (h : PSt k i s gs) (hk : k ≤ 60) (hi : i ≤ 60) : PgZ s := by
  have l := log_len h.gd
  have := h.n1; have := h.n2; have := h.n3; have := h.n4
  exact ⟨by rw [h.w]; exact Nat.zero_le _, by rw [h.w]; show _ + 0 ≤ _; omega, by rw [h.lg, h.st]; show _ + 0 ≤ _; omega, fun q hq => Nat.le_of_eq (h.pz q hq), by rw [h.w]; exact fun q hq => (by cases hq), by omega, by omega, h.cz, h.dz⟩
theorem PSt.z {k i : Nat} {s : PgS} {gs : List (List (Int × List Int))} (h : PSt k i s gs) (n : Int) : (gpg s n).length = 256 := by
  unfold gpg
  cases e1 : aget s.dir n with
  | some d => exact (h.dz _ (aget_mem' e1)).1
  | none =>
    cases e2 : aget s.com n with
    | some d => exact h.cz _ (aget_mem' e2)
    | none =>
      show (cpg s.dev n).length = 256
      unfold cpg; rw [h.w]
      show (dpg s.dev n).length = 256
      unfold dpg
      cases e3 : aget s.dev.pages n with
      | some d => exact h.pz _ (aget_mem' e3)
      | none => exact zeros_len
/-- what stands without the dirty ones -/
def bv (s : PgS) : Int → List Int := gpg { s with dir := [] }
theorem PSt.nod {k i : Nat} {s : PgS} {gs : List (List (Int × List Int))} (h : PSt k i s gs) : PSt k i { s with dir := [] } gs :=
  ⟨h.mo, h.w, h.st, h.lg, h.gd, h.cv, h.cz, h.pz, fun q hq => (by cases hq), by have := h.n1; show _ + 0 ≤ k; omega, h.n2, h.n3, h.n4⟩
theorem PSt.put {k i : Nat} {s : PgS} {gs : List (List (Int × List Int))} {n : Int} {ds : List Int} (h : PSt k i s gs) (hn : 0 ≤ n ∧ n < 256 ^ 4) (hl : ds.length = 256) : PSt (k + 1) i (pwr n ds s) gs := by
  refine ⟨h.mo, h.w, h.st, h.lg, h.gd, h.cv, h.cz, h.pz, fun q hq => ?_, ?_, h.n2, h.n3, h.n4⟩
  · rcases aput_mem (show q ∈ aput s.dir n ds from hq) with hq | hq
    · exact h.dz q hq
    · rw [hq]; exact ⟨hl, hn⟩
  · have := pwr_len s n ds; have := h.n1; omega
theorem PSt.set {k i : Nat} {s : PgS} {gs : List (List (Int × List Int))} {f : Nat} {x : Int} (h : PSt k i s gs) (hf : f ≤ 7) : PSt (k + 1) i (setf f x s) gs :=
  h.put ⟨by decide, by decide⟩ (by rw [spl_len (by rw [h.z]; omega)]; exact h.z 0)
theorem PSt.cn {k i : Nat} {s : PgS} {gs : List (List (Int × List Int))} (h : PSt k i s gs) : PSt (k + 1) i (cnth s) gs := by
  unfold cnth; split
  · exact h.set (by decide)
  · exact h.le (by omega) (Nat.le_refl _)
theorem gpg_dir {s t : PgS} (h1 : s.dev = t.dev) (h2 : s.com = t.com) : bv s = bv t := by unfold bv; rw [h1, h2]
theorem bv_at {k i : Nat} {s : PgS} {gs : List (List (Int × List Int))} (h : PSt k i s gs) (n : Int) : bv s n = (orD (aget s.com n) (aget s.dev.pages n)).getD zeros := by
  unfold bv gpg
  show (match aget s.com n with | some d => d | none => cpg s.dev n) = _
  cases e : aget s.com n with
  | some d => rfl
  | none =>
    show cpg s.dev n = _
    unfold cpg; rw [h.w]; rfl
theorem gpg_at {k i : Nat} {s : PgS} {gs : List (List (Int × List Int))} (h : PSt k i s gs) (n : Int) : gpg s n = (orD (aget s.dir n) (orD (aget s.com n) (aget s.dev.pages n))).getD zeros := by
  have b := bv_at h n
  unfold bv gpg at b
  unfold gpg
  cases e : aget s.dir n with
  | some d => rfl
  | none => exact b
theorem sum_snoc (l : List Nat) (x : Nat) : (l ++ [x]).sum = l.sum + x := by simp
theorem orD_none (b : Option (List Int)) : orD none b = b := rfl
theorem orD_as (a b e : Option (List Int)) : orD (orD a b) e = orD a (orD b e) := by cases a <;> rfl
theorem aget_nil (n : Int) : aget [] n = none := rfl
/-- a commit -/
theorem PSt.com' {k i : Nat} {s : PgS} {gs : List (List (Int × List Int))} (h : PSt k i s gs) (hk : k ≤ 60) (hi : i ≤ 60) : ∃ s' gs', pcommit s = (s', true) ∧ PSt k (i + 1) s' gs' ∧ s'.dir = [] ∧ gpg s' = gpg s ∧ (gs'.length = gs.length ∨ gs'.length = gs.length + 1) := by
  have n1 := h.n1; have n2 := h.n2; have n3 := h.n3; have n4 := h.n4
  by_cases e : s.dir.length = 0
  · exact ⟨s, gs, by unfold pcommit; rw [if_pos e], h.le (Nat.le_refl _) (by omega), List.eq_nil_of_length_eq_zero e, rfl, .inl rfl⟩
  · have c1 : (andD (dApp (wg (grp s.dir)) s.dev) dSyncL) = ({ s.dev with done := s.dev.done + (wg (grp s.dir)).length + 1, log := s.dev.log ++ wg (grp s.dir), steps := [] }, true) := by
      rw [dApp_ok _ _ h.mo, andD_yes rfl, dSyncL_ok (by exact h.mo)]
      unfold clog
      show (({ pages := s.dev.pages, writes := s.dev.writes, log := (s.dev.steps ++ (wg (grp s.dir)).map some).foldl lstep s.dev.log, steps := [], done := _, most := _ } : DevS), true) = _
      rw [h.st, List.nil_append, fold_some]
    have gd : Good (grp s.dir) := (h.pgz hk hi).good.resolve_right (by omega)
    have lgr : (grp s.dir).length = s.dir.length := by unfold grp; rw [List.length_map, skeys_len]
    have P' : PSt k (i + 1) { dev := { s.dev with done := s.dev.done + (wg (grp s.dir)).length + 1, log := s.dev.log ++ wg (grp s.dir), steps := [] }, com := coms s.dir s.com, dir := [] } (gs ++ [grp s.dir]) := by
      refine ⟨h.mo, h.w, rfl, ?_, fun g hg => ?_, fun n => ?_, ?_, h.pz, fun q hq => (by cases hq), ?_, ?_, ?_, ?_⟩
      · show s.dev.log ++ wg (grp s.dir) = _
        rw [h.lg, List.flatMap_append]; simp
      · rcases List.mem_append.mp hg with hg | hg
        · exact h.gd g hg
        · rw [List.mem_singleton.mp hg]; exact gd
      · show aget (coms s.dir s.com) n = _
        rw [aget_coms, List.foldl_append, List.foldl_cons, List.foldl_nil, aget_pgrp, h.cv]
      · show Zc (coms s.dir s.com)
        rw [coms_k]
        exact kput_zc h.cz fun n hn => fv_z (fun q hq => (h.dz q hq).1) hn
      · rw [List.map_append, List.map_cons, List.map_nil, sum_snoc, lgr]; show _ + 0 ≤ k; omega
      · show (coms s.dir s.com).length ≤ _
        rw [List.map_append, List.map_cons, List.map_nil, sum_snoc, lgr, coms_k]
        have := kput_len (fv s.dir) (s.dir.map (·.1)) s.com
        rw [List.length_map] at this
        omega
      · show s.dev.pages.length ≤ _; omega
      · rw [List.length_append, List.length_singleton]; omega
    refine ⟨_, gs ++ [grp s.dir], ?_, P', rfl, ?_, .inr (by simp)⟩
    · unfold pcommit; rw [if_neg e, c1]; rfl
    · funext n
      rw [gpg_at P', gpg_at h]
      show (orD (aget [] n) (orD (aget (coms s.dir s.com) n) (aget s.dev.pages n))).getD zeros = _
      rw [aget_nil, orD_none, aget_coms, orD_as]
theorem andD_mk (d : DevS) (f : DevS → DevS × Bool) : andD (d, true) f = f d := if_pos rfl
/-- a checkpoint -/
theorem PSt.ck {k i : Nat} {s : PgS} {gs : List (List (Int × List Int))} (h : PSt k i s gs) (hk : k ≤ 60) : ∃ s', pckpt s = (s', true) ∧ PSt k (i + 1) s' [] ∧ s'.dir = s.dir ∧ gpg s' = gpg s ∧ bv s' = bv s := by
  have n1 := h.n1; have n2 := h.n2; have n3 := h.n3; have n4 := h.n4
  obtain ⟨dn, c1⟩ : ∃ dn, andD (andD (andD (pwrites (grp s.com) s.dev) dSyncP) (dByte none)) dSyncL = ({ pages := puts s.dev.pages (grp s.com), writes := [], log := [], steps := [], done := dn, most := none }, true) := by
    rw [pwrites_ok _ _ h.mo, andD_mk, dSyncP_ok (by exact h.mo), andD_mk, dByte_ok (by exact h.mo), andD_mk, dSyncL_ok (by exact h.mo)]
    unfold clog
    refine ⟨s.dev.done + (grp s.com).length + 1 + 1 + 1, ?_⟩
    simp [h.w, h.st, h.mo, lstep]
  have lgr : (grp s.com).length = s.com.length := by unfold grp; rw [List.length_map, skeys_len]
  have P' : PSt k (i + 1) { dev := { pages := puts s.dev.pages (grp s.com), writes := [], log := [], steps := [], done := dn, most := none }, com := [], dir := s.dir } [] := by
    refine ⟨rfl, rfl, rfl, rfl, fun g hg => (by cases hg), fun n => rfl, fun q hq => (by cases hq), ?_, h.dz, ?_, Nat.zero_le _, ?_, Nat.zero_le _⟩
    · show Zc (puts s.dev.pages (grp s.com))
      rw [puts_k]
      exact kput_zc h.pz fun n hn => fv_z h.cz ((skeys_perm _).mem_iff.mp hn)
    · show 0 + s.dir.length ≤ k; omega
    · show (puts s.dev.pages (grp s.com)).length ≤ 64 * (i + 1)
      have := puts_len (grp s.com) s.dev.pages
      unfold puts; omega
  refine ⟨_, ?_, P', rfl, ?_, ?_⟩
  · unfold pckpt; rw [c1]; rfl
  · funext n
    rw [gpg_at P', gpg_at h]
    show (orD (aget s.dir n) (orD (aget [] n) (aget (puts s.dev.pages (grp s.com)) n))).getD zeros = _
    rw [aget_nil, orD_none, aget_pgrp]
  · funext n
    rw [bv_at P', bv_at h]
    show (orD (aget [] n) (aget (puts s.dev.pages (grp s.com)) n)).getD zeros = _
    rw [aget_nil, orD_none, aget_pgrp]
theorem puts_zc : ∀ {g m : List (Int × List Int)}, Zc m → Zc g → Zc (puts m g)
  | [], _, h, _ => h
  | q :: g, m, h, hw => puts_zc (g := g) (aput_zc h (hw q (by simp))) fun r hr => hw r (List.mem_cons_of_mem _ hr)
theorem gs_zc : ∀ {gs : List (List (Int × List Int))} {m : List (Int × List Int)}, Zc m → (∀ g ∈ gs, Good g) → Zc (gs.foldl puts m)
  | [], _, h, _ => h
  | g :: gs, m, h, hg => gs_zc (gs := gs) (puts_zc h fun q hq => ((hg g (by simp)).q q hq).2.2) fun x hx => hg x (List.mem_cons_of_mem _ hx)
theorem gs_len : ∀ (gs : List (List (Int × List Int))) (m : List (Int × List Int)), (gs.foldl puts m).length ≤ m.length + (gs.map List.length).sum
  | [], _ => Nat.le_refl _
  | g :: gs, m => by
    have h1 := gs_len gs (puts m g)
    have h2 := puts_len g m
    unfold puts at h1 h2
    rw [List.foldl_cons, List.map_cons, List.sum_cons]
    unfold puts
    omega
/-- a crash, and the pager anew -/
theorem PSt.init {k i : Nat} {s : PgS} {gs : List (List (Int × List Int))} (h : PSt k i s gs) (hk : k ≤ 60) (hi : i ≤ 60) : clog (dCrash [] 0 s.dev) = gs.flatMap wg ∧ CkZ (pini0 gs (dCrash [] 0 s.dev)) ∧ ∃ s1, pini1 gs (dCrash [] 0 s.dev) = (s1, true) ∧ PSt k (i + 1) s1 [] ∧ s1.dir = [] ∧ gpg s1 = bv s := by
  have n1 := h.n1; have n2 := h.n2; have n3 := h.n3; have n4 := h.n4
  have dl : (dCrash [] 0 s.dev).log = gs.flatMap wg := h.lg
  have P0 : PSt k i (pini0 gs (dCrash [] 0 s.dev)) gs := by
    refine ⟨rfl, rfl, rfl, dl, h.gd, fun n => rfl, gs_zc (fun q hq => (by cases hq)) h.gd, ?_, fun q hq => (by cases hq), by show _ + 0 ≤ k; omega, ?_, ?_, n4⟩
    · show Zc ((s.dev.writes.zip []).foldl dFate s.dev.pages)
      rw [List.zip_nil_right]; exact h.pz
    · have := gs_len gs []
      show (gs.foldl puts []).length ≤ _
      simpa using this
    · show ((s.dev.writes.zip ([] : List Int)).foldl dFate s.dev.pages).length ≤ _
      rw [List.zip_nil_right]; exact n3
  have b0 : gpg (pini0 gs (dCrash [] 0 s.dev)) = bv s := by
    funext n
    rw [gpg_at P0, bv_at h]
    show (orD (aget [] n) (orD (aget (gs.foldl puts []) n) (aget ((s.dev.writes.zip []).foldl dFate s.dev.pages) n))).getD zeros = _
    rw [aget_nil, orD_none, List.zip_nil_right, h.cv]; rfl
  have cl : clog (dCrash [] 0 s.dev) = gs.flatMap wg := dl
  refine ⟨cl, (P0.pgz hk hi).ck, ?_⟩
  by_cases e : 0 < (clog (dCrash [] 0 s.dev)).length
  · obtain ⟨s', e1, P', d', g', b'⟩ := P0.ck hk
    exact ⟨s', by unfold pini1; rw [if_pos e, e1], P', d', g'.trans b0⟩
  · have eg : gs = [] := by
      cases hg : gs with
      | nil => rfl
      | cons g gs' =>
        exfalso
        apply e
        rw [cl, hg, List.flatMap_cons, List.length_append, wg_len (h.gd g (by rw [hg]; simp))]; omega
    refine ⟨pini0 gs (dCrash [] 0 s.dev), by unfold pini1; rw [if_neg e], ?_, rfl, b0⟩
    have := P0.le (Nat.le_refl k) (Nat.le_succ i)
    rw [eg] at this ⊢
    exact this
theorem pr_app {α β : Type} {R : α → β → Prop} : ∀ {l : List α} {m : List β} {l' : List α} {m' : List β}, Paired R l m → Paired R l' m' → Paired R (l ++ l') (m ++ m')
  | _, _, _, _, .nil, h => h
  | _, _, _, _, .cons r t, h => .cons r (pr_app t h)
def pad (ds : List Int) : List Int := ds ++ List.replicate (256 - ds.length) 0
theorem fm_le {α : Type} {f : α → List Int} {n : Nat} : ∀ {g : List α}, (∀ q ∈ g, (f q).length ≤ n) → (g.flatMap f).length ≤ n * g.length
  | [], _ => Nat.le_refl _
  | q :: g, h => by
    have h1 := fm_le (g := g) fun r hr => h r (List.mem_cons_of_mem _ hr)
    have h2 := h q (by simp)
    rw [List.flatMap_cons, List.length_append, List.length_cons, Nat.mul_succ]
    omega
theorem pad_len {ds : List Int} (h : ds.length ≤ 256) : (pad ds).length = 256 := by unfold pad; rw [List.length_append, List.length_replicate]; omega
section
variable {P : Program} {w : World} {K : PySem.W.Frag} {mg : Str → Option Value} {base : Heap} {c : Cl}
def sp_filled : Sp := fun vs H Q _ => ∃ l ds, vs = [.ref l] ∧ H l = some (.lst (ds.map V.int)) ∧ ds.length ≤ 256 ∧ ∀ b H', H b = none → Kp F0 H H' → H' b = some (.lst ((pad ds).map V.int)) → Q (.ref b) H'
theorem ok_filled (T : Txt K mg c) : GF P w K mg base CX0 1 "filled" sp_filled := by
  obtain ⟨f, fd, F, gm⟩ := T.f_filled
  obtain ⟨_, mg_PAGE_SIZE⟩ := T.m_PAGE_SIZE
  refine ⟨f, fd, ["data"], F.ok sc_filled ?_ (fun cdv A outer s H vs Q E hr h => ?_), gm, F.kp, (F.binds (ps := ["data"]) fun _ _ _ _ _ _ us hl => match us, hl with | [_], _ => rfl)⟩
  · rintro vs H Q E ⟨_, _, rfl, _⟩
    rfl
  · obtain ⟨l, ds, rfl, hl, lz, k⟩ := h
    refine ⟨_, (pss_one (ps_ret (pe_op op_cat (pv 0) (pe_op op_rep (pe_lst (pa_cons pe_int pa_nil)) (pe_op op_sub (pe_glob (v := .int 256) rfl mg_PAGE_SIZE ⟨_, rfl⟩) (pe_callB (r := rLenQ K) c_len (by rfl) T.z_len PySem.boot_len (pa_cons (pv 0) pa_nil))))))), ?_⟩
    walk_at "cx"
    walk_at "rd"
    refine x_newL fun z1 H1 hz1 k1 e1 => ?_
    have hl1 := k1.get hl id
    walk_at "rd"
    rw [List.length_map]
    refine x_rep e1 (by omega) (by omega) fun z2 H2 hz2 k2 e2 => ?_
    walk_at "rd"
    refine x_catL (k2.get hl1 id) e2 (by rw [List.length_map, List.length_replicate, sizeLine_eq]; omega) fun b H3 hb k3 e3 => ?_
    refine k b H3 (k1.free (k2.free hb id) id) ((k1.trans k2 fun _ z => z.elim).trans k3 fun _ z => z.elim) ?_
    rw [e3]
    unfold pad
    rw [List.map_append, List.map_replicate, show ((256 : Int) - (ds.length : Int)).toNat = 256 - ds.length by omega]
end
/-! ### ways, and lists in pairs -/
def PthV (K : PySem.W.Frag) (H : Hp) (v : V) (q : Int × Nat) : Prop := ∃ t, v = .ref t ∧ SqT K H t [.int q.1, .int (q.2 : Nat)]
theorem PthV.kp {K : PySem.W.Frag} {F : Addr → Prop} {H H' : Hp} {v : V} {q : Int × Nat} (k : Kp F H H') (h : PthV K H v q) : PthV K H' v q := by
  obtain ⟨t, rfl, h⟩ := h
  exact ⟨t, rfl, k.sqT h⟩
def rInsQ : V → List V → Hp → VK → Prop := fun x vs H Q => ∃ (l : Addr) (xs : List V) (i : Int) (y : V), x = .ref l ∧ vs = [.int i, y] ∧ H l = some (.lst xs) ∧ xs.length < sizeLine ∧ 0 ≤ i ∧ i < 2 ^ 63 ∧ Q .non (upd H l (.lst (xs.take i.toNat ++ [y] ++ xs.drop i.toNat)))
theorem x_ins {H : Hp} {Q : VK} {l : Addr} {xs : List V} {i : Nat} {j : Int} {y : V} (h : H l = some (.lst xs)) (ej : j = (i : Int)) (hz : xs.length < 16777216) (hi : i < 1000000) (q : ∀ H1, H1 l = some (.lst (xs.take i ++ [y] ++ xs.drop i)) → Kp (F1 l) H H1 → Q .non H1) : rInsQ (.ref l) [.int j, y] H Q :=
  ⟨l, xs, j, y, rfl, rfl, h, Nat.lt_of_lt_of_le hz (by decide), by omega, by omega, by subst ej; rw [Int.toNat_natCast]; exact q _ upd_same (Kp.put h id)⟩
theorem pr_snoc {α β : Type} {R : α → β → Prop} : ∀ {l : List α} {m : List β} {y : β}, Paired R l (m ++ [y]) → ∃ l' x, l = l' ++ [x] ∧ Paired R l' m ∧ R x y
  | _, [], _, .cons r .nil => ⟨[], _, rfl, .nil, r⟩
  | _, _ :: _, _, .cons r t => by
    obtain ⟨l', x, e, h, z⟩ := pr_snoc t
    exact ⟨_ :: l', x, by rw [e]; rfl, .cons r h, z⟩
theorem pr_take {α β : Type} {R : α → β → Prop} : ∀ {l : List α} {m : List β} (n : Nat), Paired R l m → Paired R (l.take n) (m.take n)
  | _, _, 0, _ => .nil
  | _, _, _ + 1, .nil => .nil
  | _, _, n + 1, .cons r t => .cons r (pr_take n t)
theorem pr_drop {α β : Type} {R : α → β → Prop} : ∀ {l : List α} {m : List β} (n : Nat), Paired R l m → Paired R (l.drop n) (m.drop n)
  | _, _, 0, h => h
  | _, _, _ + 1, .nil => .nil
  | _, _, n + 1, .cons _ t => pr_drop n t
theorem cutV_init {xs : List V} {x : V} : cutV (xs ++ [x]) none (some (-1)) = xs := by
  unfold cutV
  rw [HT.sIx_none]
  show ((xs ++ [x]).drop 0).take ((if (-1 : Int) < 0 then ((-1 : Int) + ((xs ++ [x]).length : Int)).toNat else min (-1 : Int).toNat (xs ++ [x]).length) - 0) = xs
  rw [if_pos (by decide), List.drop_zero, Nat.sub_zero, show ((-1 : Int) + ((xs ++ [x]).length : Int)).toNat = xs.length by rw [List.length_append, List.length_singleton]; omega, List.take_left]
theorem at_lastV {xs : List V} {y : V} : atI (xs ++ [y]) (-1) = some y := by
  unfold atI ixN
  rw [if_neg (by decide), if_pos (by rw [List.length_append, List.length_singleton]; omega)]
  show (xs ++ [y])[(-1 + ((xs ++ [y]).length : Int)).toNat]? = some y
  rw [show (-1 + ((xs ++ [y]).length : Int)).toNat = xs.length by rw [List.length_append, List.length_singleton]; omega]
  simp
theorem cutW_to {xs : List V} {j : Nat} (h : j ≤ xs.length) : cutV xs none (some (j : Int)) = xs.take j := by
  unfold cutV
  rw [HT.sIx_none, HT.sIx_nat, List.drop_zero, Nat.sub_zero, Nat.min_eq_left h]
theorem cutW_from {xs : List V} {j : Nat} (h : j ≤ xs.length) : cutV xs (some (j : Int)) none = xs.drop j := by
  unfold cutV
  rw [HT.sIx_none, HT.sIx_nat, Nat.min_eq_left h, List.take_of_length_le (by simp)]
theorem Stp.off1 {G G1 : Addr → Prop} {H H1 H2 : Hp} {x : Addr} (s : Stp G G1 H H1) (k : Kp (F1 x) H1 H2) (hx : H x = none) : Stp G G1 H H2 :=
  ⟨fun b o hb n => k.get (s.kp b o hb n) (ne_of_none hb hx), s.gr⟩
theorem pr_erase {α β : Type} {R : α → β → Prop} : ∀ {l : List α} {m : List β} (n : Nat), Paired R l m → Paired R (l.eraseIdx n) (m.eraseIdx n)
  | _, _, _, .nil => .nil
  | _, _, 0, .cons _ t => t
  | _, _, n + 1, .cons r t => .cons r (pr_erase n t)
theorem Stp.new {G G1 : Addr → Prop} {H H1 : Hp} {x : Addr} (s : Stp G G1 H H1) (hx : H1 x = none) : ∀ b o, H b = some o → (G b → Fix o) → b ≠ x := fun b o hb n => ne_of_none (s.kp b o hb n) hx
theorem Stp.off2 {G G1 : Addr → Prop} {H H1 H2 : Hp} {x : Addr} (s : Stp G G1 H H1) (k : Kp (F1 x) H1 H2) (nx : ∀ b o, H b = some o → (G b → Fix o) → b ≠ x) : Stp G G1 H H2 :=
  ⟨fun b o hb n => k.get (s.kp b o hb n) (nx b o hb n), s.gr⟩
theorem rm65 {k : Nat} {A : Around} (r : Room k A) : A.units + 65 < cLine := by have := r.un; omega
def rvl (n : Nat) : List V := (List.range n).map fun i => V.int ((n : Int) - 1 - (i : Nat))
theorem rvl_len {n : Nat} : (rvl n).length = n := by unfold rvl; simp
theorem rvl_at {n i : Nat} {x : V} (h : (rvl n)[i]? = some x) : i < n ∧ x = .int ((n : Int) - 1 - (i : Nat)) := by
  unfold rvl at h
  rw [List.getElem?_map] at h
  by_cases hi : i < n
  · rw [List.getElem?_range hi] at h
    exact ⟨hi, (Option.some.inj h).symm⟩
  · rw [List.getElem?_eq_none (by simpa using hi)] at h
    cases h
theorem Wk.rgc {n : Nat} : Wk (Itc (0 + (n : Int) - 1) (-1) n) (fun _ => True) (rvl n) where
  go := fun i H h _ => by rw [rvl_len] at h; exact h
  yld := fun i H x H' h _ y => by
    rw [rvl_len] at h
    refine ⟨y.1.symm, ?_⟩
    unfold rvl
    rw [List.getElem?_map, List.getElem?_range h, y.2]
    show some (V.int _) = some (V.int _)
    congr 2
    omega
  stop := fun H _ => by show n ≤ _; rw [rvl_len]; exact Nat.le_refl _
theorem x_revr {te : TE} {σ : L2.St} {H : Hp} {R : It → Hp → Prop} (h : te σ H fun x H1 => ∃ n, x = .int n ∧ (-(2 ^ 62) ≤ (0 : Int) ∧ (0 : Int) < 2 ^ 62 ∧ -(2 ^ 62) ≤ n ∧ n < 2 ^ 62 ∧ R (Itc (0 + (((n - 0).toNat : Nat) : Int) - 1) (-1) (n - 0).toNat) H1)) : iRevR (tRg1 te) σ H R := h
theorem seqIx {i n : Nat} (h : i < n) : seqIndex? (i : Int) n = some i := by
  unfold seqIndex?
  simp
  omega
/-! ### the pages of a pager: free ones and taken ones -/
structure FR (i : Nat) (s : PgS) (m : Int) (f t : List Int) : Prop where
  z : ∀ n, (gpg s n).length = 256
  many : vf (gpg s) 6 = m
  chain : Chain (fun n => rn ((gpg s n).take 4)) (vf (gpg s) 7) f
  nd : (f ++ t).Nodup
  rg : ∀ n ∈ f ++ t, 1 ≤ n ∧ n < m
  fu : ∀ n, 1 ≤ n → n < m → n ∈ f ++ t
  m1 : 1 ≤ m
  mb : m ≤ 1 + i
  dl : s.dir.length ≤ 2 * i
theorem FR.le {i j : Nat} {s : PgS} {m : Int} {f t : List Int} (h : FR i s m f t) (l : i ≤ j) : FR j s m f t :=
  ⟨h.z, h.many, h.chain, h.nd, h.rg, h.fu, h.m1, by have := h.mb; omega, by have := h.dl; omega⟩
theorem FR.perm {i : Nat} {s : PgS} {m : Int} {f t t' : List Int} (h : FR i s m f t) (p : t.Perm t') : FR i s m f t' :=
  have q := List.Perm.append_left f p
  ⟨h.z, h.many, h.chain, q.nodup_iff.mp h.nd, fun n hn => h.rg n (q.mem_iff.mpr hn), fun n a b => q.mem_iff.mp (h.fu n a b), h.m1, h.mb, h.dl⟩
theorem FR.pos {i : Nat} {s : PgS} {m : Int} {f t : List Int} (h : FR i s m f t) {n : Int} (hn : n ∈ t) : 1 ≤ n ∧ n < m := h.rg n (List.mem_append.mpr (.inr hn))
theorem FR.nf {i : Nat} {s : PgS} {m : Int} {f t : List Int} (h : FR i s m f t) {n : Int} (hn : n ∈ t) {x : Int} (hx : x ∈ f) : x ≠ n := fun e => by
  subst e
  exact (List.nodup_append.mp h.nd).2.2 x hx x hn rfl
theorem FR.ndt {i : Nat} {s : PgS} {m : Int} {f t : List Int} (h : FR i s m f t) : t.Nodup := (List.nodup_append.mp h.nd).2.1
theorem FR.write {i : Nat} {s : PgS} {m : Int} {f t : List Int} {n : Int} {ds : List Int} (h : FR i s m f t) (hn : n ∈ t) (hl : ds.length = 256) : FR (i + 1) (pwr n ds s) m f t := by
  have n0 : n ≠ 0 := by have := (h.pos hn).1; omega
  refine ⟨fun x => ?_, ?_, ?_, h.nd, h.rg, h.fu, h.m1, by have := h.mb; omega, ?_⟩
  · rw [gpg_pwr]; unfold vput; split
    · exact hl
    · exact h.z x
  · rw [gpg_pwr, vput_vf _ _ n0]; exact h.many
  · rw [gpg_pwr, vput_vf _ _ n0]
    exact h.chain.mono fun x hx => by
      show rn ((gpg s x).take 4) = rn ((vput (gpg s) n ds x).take 4)
      rw [vput_ne _ _ (h.nf hn hx)]
  · have := pwr_len s n ds; have := h.dl; omega
def alN (m : Int) (f : List Int) : Int := f.headD m
def alM (m : Int) (f : List Int) : Int := if f = [] then m + 1 else m
theorem FR.alloc {i : Nat} {s : PgS} {m : Int} {f t : List Int} (h : FR i s m f t) (hi : i ≤ 400000) :
    (palloc s).2 = alN m f ∧ FR (i + 1) (palloc s).1 (alM m f) f.tail (alN m f :: t) ∧ ∀ x ∈ t, gpg (palloc s).1 x = gpg s x := by
  have m1 := h.m1; have mb := h.mb
  have h7 : vf (gpg s) 7 = (f ++ [0]).headD 0 := h.chain.head
  have hz : 4 * (6 + 1) ≤ (gpg s 0).length := by rw [h.z]; decide
  have hz7 : 4 * (7 + 1) ≤ (gpg s 0).length := by rw [h.z]; decide
  cases f with
  | nil =>
    have h7 : vf (gpg s) 7 = 0 := h7
    have e : palloc s = (pwr m zeros (setf 6 (m + 1) s), m) := by unfold palloc; rw [fld_vf, fld_vf, h7, if_pos rfl, h.many]
    have n0 : m ≠ 0 := by omega
    have g : gpg (pwr m zeros (setf 6 (m + 1) s)) = vput (vset (gpg s) 6 (m + 1)) m zeros := by rw [gpg_pwr, gpg_set]
    have fv : ∀ j, vf (vput (vset (gpg s) 6 (m + 1)) m zeros) j = if j = 6 then m + 1 else vf (gpg s) j := fun j => by
      rw [vput_vf _ _ n0]; exact vset_vf (by omega) (by omega) hz
    rw [e]
    refine ⟨rfl, ⟨fun x => ?_, ?_, ?_, ?_, fun x hx => ?_, fun x a b => ?_, ?_, ?_, ?_⟩, fun x hx => ?_⟩
    · rw [g]; unfold vput; split
      · exact zeros_len
      · unfold vset vput; split
        · rw [spl_len hz]; exact h.z 0
        · exact h.z x
    · rw [g, fv, if_pos rfl]; rfl
    · rw [g, fv, if_neg (by decide)]; exact h7
    · show (m :: t).Nodup
      refine List.nodup_cons.mpr ⟨fun z => ?_, h.ndt⟩
      have := h.pos z
      omega
    · show 1 ≤ x ∧ x < m + 1
      rcases List.mem_cons.mp (show x ∈ m :: t from hx) with rfl | q
      · omega
      · have := h.pos q; omega
    · show x ∈ m :: t
      by_cases q : x = m
      · rw [q]; simp
      · exact List.mem_cons_of_mem _ (h.fu x a (by unfold alM at b; rw [if_pos rfl] at b; omega))
    · show 1 ≤ m + 1; omega
    · show m + 1 ≤ 1 + ((i + 1 : Nat) : Int); omega
    · have := pwr_len (setf 6 (m + 1) s) m zeros; have := setf_len s 6 (m + 1); have := h.dl; show (pwr m zeros (setf 6 (m + 1) s)).dir.length ≤ _; omega
    · show gpg (pwr m zeros (setf 6 (m + 1) s)) x = _
      have := h.pos hx
      rw [g, vput_ne _ _ (by omega), vset_ne _ _ _ (by omega)]
  | cons n r =>
    have c := h.chain
    have rg := h.rg
    have nd := h.nd
    have en : vf (gpg s) 7 = n := c.1
    have n0 : n ≠ 0 := by have := (rg n (by simp)).1; omega
    have e : palloc s = (pwr n zeros (setf 7 (rn ((gpg s n).take 4)) s), n) := by unfold palloc; rw [fld_vf, fld_vf, en, if_neg n0]
    have hx := c.2.head
    have xb : 0 ≤ rn ((gpg s n).take 4) ∧ rn ((gpg s n).take 4) < 256 ^ 4 := by
      show 0 ≤ (fun n => rn ((gpg s n).take 4)) n ∧ (fun n => rn ((gpg s n).take 4)) n < 256 ^ 4
      rw [hx]
      cases r with
      | nil => exact ⟨by decide, by decide⟩
      | cons y r => have := rg y (by simp); show 0 ≤ y ∧ y < 256 ^ 4; omega
    have g : gpg (pwr n zeros (setf 7 (rn ((gpg s n).take 4)) s)) = vput (vset (gpg s) 7 (rn ((gpg s n).take 4))) n zeros := by rw [gpg_pwr, gpg_set]
    have fv : ∀ j, vf (vput (vset (gpg s) 7 (rn ((gpg s n).take 4))) n zeros) j = if j = 7 then rn ((gpg s n).take 4) else vf (gpg s) j := fun j => by
      rw [vput_vf _ _ n0]; exact vset_vf xb.1 xb.2 hz7
    rw [List.cons_append, List.nodup_cons] at nd
    have dis : ∀ x ∈ r ++ t, x ≠ n := fun x hx' q => nd.1 (by rw [← q]; exact hx')
    have pm : (r ++ (n :: t)).Perm (n :: (r ++ t)) := List.perm_middle
    rw [e]
    refine ⟨rfl, ⟨fun x => ?_, ?_, ?_, ?_, fun x hx => ?_, fun x a b => ?_, ?_, ?_, ?_⟩, fun x hx => ?_⟩
    · rw [g]; unfold vput; split
      · exact zeros_len
      · unfold vset vput; split
        · rw [spl_len hz7]; exact h.z 0
        · exact h.z x
    · rw [g, fv, if_neg (by decide), h.many]; rfl
    · rw [g, fv, if_pos rfl]
      exact c.2.mono fun x hx => by
        have hx : x ∈ r := hx
        have m0 := (rg x (by simp [hx])).1
        show rn ((gpg s x).take 4) = rn ((vput (vset (gpg s) 7 (rn ((gpg s n).take 4))) n zeros x).take 4)
        rw [vput_ne _ _ (dis x (by simp [hx])), vset_ne _ _ _ (by omega)]
    · show (r ++ (n :: t)).Nodup
      exact pm.nodup_iff.mpr (List.nodup_cons.mpr nd)
    · exact rg x (pm.mem_iff.mp hx)
    · exact pm.mem_iff.mpr (h.fu x a b)
    · exact m1
    · show m ≤ _; omega
    · have := pwr_len (setf 7 (rn ((gpg s n).take 4)) s) n zeros; have := setf_len s 7 (rn ((gpg s n).take 4)); have := h.dl; show (pwr n zeros (setf 7 (rn ((gpg s n).take 4)) s)).dir.length ≤ _; omega
    · show gpg (pwr n zeros (setf 7 (rn ((gpg s n).take 4)) s)) x = _
      have := h.pos hx
      rw [g, vput_ne _ _ (dis x (by simp [hx])), vset_ne _ _ _ (by omega)]
theorem FR.rel {i : Nat} {s : PgS} {m : Int} {f t : List Int} {n : Int} (h : FR i s m f (n :: t)) (hi : i ≤ 400000) :
    FR (i + 1) (prel n s) m (n :: f) t ∧ ∀ x ∈ t, gpg (prel n s) x = gpg s x := by
  have m1 := h.m1; have mb := h.mb
  have hn := h.pos (n := n) (by simp)
  have n0 : n ≠ 0 := by omega
  have g : gpg (prel n s) = vset (vput (gpg s) n (wn 4 (vf (gpg s) 7) ++ List.replicate 252 0)) 7 n := by unfold prel; rw [gpg_set, gpg_pwr, fld_vf]
  have lw : (wn 4 (vf (gpg s) 7) ++ List.replicate 252 (0 : Int)).length = 256 := by rw [List.length_append, wn_len, List.length_replicate]
  have v0 : vput (gpg s) n (wn 4 (vf (gpg s) 7) ++ List.replicate 252 0) 0 = gpg s 0 := vput_ne _ _ n0.symm
  have hz : 4 * (7 + 1) ≤ (vput (gpg s) n (wn 4 (vf (gpg s) 7) ++ List.replicate 252 0) 0).length := by rw [v0, h.z]; decide
  have fv : ∀ j, vf (vset (vput (gpg s) n (wn 4 (vf (gpg s) 7) ++ List.replicate 252 0)) 7 n) j = if j = 7 then n else vf (gpg s) j := fun j => by
    rw [vset_vf (by omega) (by omega) hz, vput_vf _ _ n0]
  have x7 : 0 ≤ vf (gpg s) 7 ∧ vf (gpg s) 7 < 256 ^ 4 := by
    have c := h.chain.head
    rw [c]
    cases f with
    | nil => exact ⟨by decide, by decide⟩
    | cons y r => have := h.rg y (by simp); show 0 ≤ y ∧ y < 256 ^ 4; omega
  have pm : (f ++ (n :: t)).Perm (n :: (f ++ t)) := List.perm_middle
  have nd := pm.nodup_iff.mp h.nd
  have ni := (List.nodup_cons.mp nd).1
  refine ⟨⟨fun x => ?_, ?_, ?_, nd, fun x hx => h.rg x (pm.mem_iff.mpr hx), fun x a b => pm.mem_iff.mp (h.fu x a b), m1, by omega, ?_⟩, fun x hx => ?_⟩
  · rw [g]; unfold vset
    by_cases e : x = 0
    · subst e; rw [vput_eq, spl_len hz, v0]; exact h.z 0
    · rw [vput_ne _ _ e]; unfold vput; split
      · exact lw
      · exact h.z x
  · rw [g, fv]; exact h.many
  · rw [g, fv, if_pos rfl]
    refine ⟨rfl, ?_⟩
    have e : rn ((vset (vput (gpg s) n (wn 4 (vf (gpg s) 7) ++ List.replicate 252 0)) 7 n n).take 4) = vf (gpg s) 7 := by
      rw [vset_ne _ _ _ n0, vput_eq, List.take_left' (wn_len 4 _)]
      exact rn_wn 4 _ x7.1 x7.2
    show Chain _ (rn ((vset (vput (gpg s) n (wn 4 (vf (gpg s) 7) ++ List.replicate 252 0)) 7 n n).take 4)) f
    rw [e]
    exact h.chain.mono fun x hx => by
      have m0 := (h.rg x (List.mem_append.mpr (.inl hx))).1
      have mn : x ≠ n := fun z => ni (by rw [← z]; exact List.mem_append.mpr (.inl hx))
      show rn ((gpg s x).take 4) = rn ((vset (vput (gpg s) n (wn 4 (vf (gpg s) 7) ++ List.replicate 252 0)) 7 n x).take 4)
      rw [vset_ne _ _ _ (by omega), vput_ne _ _ mn]
  · have := setf_len (pwr n (wn 4 (fld s 7) ++ List.replicate 252 0) s) 7 n; have := pwr_len s n (wn 4 (fld s 7) ++ List.replicate 252 0); have := h.dl
    unfold prel; omega
  · have := h.pos (n := x) (by simp [hx])
    have mn : x ≠ n := fun z => ni (by rw [← z]; exact List.mem_append.mpr (.inr hx))
    rw [g, vset_ne _ _ _ (by omega), vput_ne _ _ mn]
theorem FR.len {i : Nat} {s : PgS} {m : Int} {f t : List Int} (F : FR i s m f t) : (f ++ t).length = (m - 1).toNat := by
  have m1 := F.m1
  have nd2 : ((List.range (m - 1).toNat).map fun i => 1 + ((i : Nat) : Int)).Nodup := by
    unfold List.Nodup
    rw [List.pairwise_map]
    exact List.nodup_range.imp fun h => by omega
  have p : (f ++ t).Perm ((List.range (m - 1).toNat).map fun i => 1 + ((i : Nat) : Int)) := (List.perm_ext_iff_of_nodup F.nd nd2).mpr fun x => ⟨fun hx => by
    have := F.rg x hx
    exact List.mem_map.mpr ⟨(x - 1).toNat, List.mem_range.mpr (by omega), by omega⟩, fun hx => by
    obtain ⟨j, hj, rfl⟩ := List.mem_map.mp hx
    have := List.mem_range.mp hj
    exact F.fu _ (by omega) (by omega)⟩
  rw [p.length_eq, List.length_map, List.length_range]
/-! ### items and children of metric trees -/
structure Mt where
  p : List Int
  x : Int
  y : Int
/-- kd 3: an item, x its key, y its begin; kd 4: a child, x its radius, y its page -/
def mtT (kd : Int) (q : Addr) (it : Mt) : List V := if kd = 4 then [.ref q, .int it.x, .int it.y] else [.int it.x, .int it.y, .ref q]
def MtV (K : PySem.W.Frag) (H : Hp) (kd : Int) (v : V) (it : Mt) : Prop := ∃ t q, v = .ref t ∧ SqT K H t (mtT kd q it) ∧ SqT K H q (it.p.map V.int)
theorem MtV.kp {K : PySem.W.Frag} {F : Addr → Prop} {H H' : Hp} {kd : Int} {v : V} {it : Mt} (k : Kp F H H') (h : MtV K H kd v it) : MtV K H' kd v it := by
  obtain ⟨t, q, e, h1, h2⟩ := h
  exact ⟨t, q, e, k.sqT h1, k.sqT h2⟩
abbrev MtVs (K : PySem.W.Frag) (H : Hp) (kd : Int) (vs : List V) (its : List Mt) : Prop := Paired (MtV K H kd) vs its
def encT (kd : Int) (it : Mt) : List Int := if kd = 4 then wp it.p ++ wn 4 it.x ++ wn 4 it.y else wn 4 it.x ++ wn 4 it.y ++ wp it.p
def encM (kd : Int) (its : List Mt) : List Int := kd :: (its.length : Int) :: its.flatMap (encT kd)
structure MtOk (D : Nat) (it : Mt) : Prop where
  x0 : 0 ≤ it.x
  x1 : it.x < 256 ^ 4
  y0 : 0 ≤ it.y
  y1 : it.y < 256 ^ 4
  l : it.p.length = D
  c : Crd it.p
theorem encT_len (kd : Int) (it : Mt) : (encT kd it).length = 8 + 2 * it.p.length := by
  unfold encT
  split <;> simp only [List.length_append, wn_len, wp_len] <;> omega
theorem MtOk.len {D : Nat} {kd : Int} {it : Mt} (h : MtOk D it) : (encT kd it).length = 8 + 2 * D := by rw [encT_len, h.l]
theorem fmT_len {D : Nat} {kd : Int} : ∀ {its : List Mt}, (∀ it ∈ its, MtOk D it) → (its.flatMap (encT kd)).length = (8 + 2 * D) * its.length
  | [], _ => rfl
  | it :: its, h => by
    rw [List.flatMap_cons, List.length_append, (h it (by simp)).len, fmT_len fun x hx => h x (by simp [hx]), List.length_cons, Nat.mul_succ]
    omega
theorem encM_len {D : Nat} {kd : Int} {its : List Mt} (h : ∀ it ∈ its, MtOk D it) : (encM kd its).length = 2 + (8 + 2 * D) * its.length := by
  unfold encM
  rw [List.length_cons, List.length_cons, fmT_len h]
  omega
theorem encM_fit {D : Nat} {kd : Int} {its : List Mt} (h : ∀ it ∈ its, MtOk D it) (l : its.length ≤ 9) (hD : D ≤ 8) : (encM kd its).length ≤ 256 := by
  rw [encM_len h]
  have : (8 + 2 * D) * its.length ≤ 24 * 9 := Nat.mul_le_mul (by omega) l
  omega
def DecM (D : Nat) (v : List Int) (kd : Int) (its : List Mt) : Prop := (v = pad (encM kd its) ∧ (kd = 3 ∨ kd = 4) ∧ (∀ it ∈ its, MtOk D it) ∧ its.length ≤ 9) ∨ (v = zeros ∧ kd = 3 ∧ its = [])
theorem DecM.kk {D : Nat} {v : List Int} {kd : Int} {its : List Mt} (h : DecM D v kd its) : kd = 3 ∨ kd = 4 := by
  rcases h with ⟨_, h, _⟩ | ⟨_, h, _⟩
  · exact h
  · exact .inl h
theorem DecM.ok {D : Nat} {v : List Int} {kd : Int} {its : List Mt} (h : DecM D v kd its) : ∀ it ∈ its, MtOk D it := by
  rcases h with ⟨_, _, h, _⟩ | ⟨_, _, h⟩
  · exact h
  · rw [h]; exact fun it z => by simp at z
theorem DecM.lz {D : Nat} {v : List Int} {kd : Int} {its : List Mt} (h : DecM D v kd its) : its.length ≤ 9 := by
  rcases h with ⟨_, _, _, h⟩ | ⟨_, _, h⟩
  · exact h
  · rw [h]; decide
theorem padM_at {kd : Int} {its : List Mt} {k : Nat} {it : Mt} (e : its[k]? = some it) : ∃ T, pad (encM kd its) = (kd :: (its.length : Int) :: (its.take k).flatMap (encT kd)) ++ (encT kd it ++ T) := by
  refine ⟨(its.drop (k + 1)).flatMap (encT kd) ++ List.replicate (256 - (encM kd its).length) 0, ?_⟩
  have hk := (List.getElem?_eq_some_iff.mp e).1
  have h2 : its.drop k = it :: its.drop (k + 1) := by rw [List.drop_eq_getElem_cons hk, (List.getElem?_eq_some_iff.mp e).2]
  have z : its.flatMap (encT kd) = (its.take k).flatMap (encT kd) ++ (encT kd it ++ (its.drop (k + 1)).flatMap (encT kd)) := by
    conv => lhs; rw [← List.take_append_drop k its, List.flatMap_append, h2, List.flatMap_cons]
  unfold pad
  generalize List.replicate (256 - (encM kd its).length) (0 : Int) = Z
  rw [encM, z]
  simp only [List.cons_append, List.append_assoc]
theorem dropM {A : List Int} {B : List Int} {n : Nat} (i : Nat) (h : A.length = n) : (A ++ B).drop (n + i) = B.drop i := by
  rw [← List.drop_drop, ← h, List.drop_left]
theorem rn_at {A T : List Int} {x : Int} {n : Nat} (h : A.length = n) (h0 : 0 ≤ x) (h1 : x < 256 ^ 4) : rn (((A ++ (wn 4 x ++ T)).drop n).take 4) = x := by
  rw [← h, List.drop_left, List.take_left' (wn_len 4 x)]
  exact rn_wn 4 _ h0 h1
structure MkA (c : Cl) (H : Hp) (mt p : Addr) (r D : Int) (met : Str) : Prop where
  o : ∃ dx, H mt = some (.ins c.MetricTree dx (F_MetricTree (.ref p) (.int r) (.int D) (.str met)))
theorem MkA.kp {c : Cl} {F : Addr → Prop} {H H' : Hp} {mt p : Addr} {r D : Int} {met : Str} (k : Kp F H H') (h : MkA c H mt p r D met) (n : ¬ F mt) : MkA c H' mt p r D met := by
  obtain ⟨dx, o⟩ := h.o
  exact ⟨dx, k.get o n⟩
section
variable {P : Program} {w : World} {K : PySem.W.Frag} {mg : Str → Option Value} {base : Heap} {c : Cl}
def sp_MetricTree_init (c : Cl) : Sp := fun vs H Q _ => ∃ t p dx r D met, vs = [.ref t, .ref p, .int r, .int D, .str met] ∧ H t = some (.ins c.MetricTree dx []) ∧ ∀ H', MkA c H' t p r D met → Kp (F1 t) H H' → Q .non H'
theorem mk_MetricTree (T : Txt K mg c) : GC P w K mg base CX0 1 "MetricTree" c.MetricTree (sp_MetricTree_init c) := by
  obtain ⟨f, fd, F, gf, gi⟩ := T.f_MetricTree___init__
  have tc := T.cl_MetricTree; have t1 := T.n_MetricTree_pager; have t2 := T.n_MetricTree_root; have t3 := T.n_MetricTree_dimensions; have t4 := T.n_MetricTree_metric
  refine ⟨f, fd, ["self", "pager", "root", "dimensions", "metric"], F.ok sc_MetricTree___init__ ?_ (fun cdv A outer s H vs Q E hr h => ?_), ⟨T.mk_MetricTree.1, gf, gi, T.mk_MetricTree.2⟩, T.mg_MetricTree, (F.binds (ps := ["self", "pager", "root", "dimensions", "metric"]) fun _ _ _ _ _ _ us hl => match us, hl with | [_, _, _, _, _], _ => rfl)⟩
  · rintro vs H Q E ⟨_, _, _, _, _, _, rfl, _⟩
    rfl
  · obtain ⟨t, p, dx, r, D, met, rfl, ht, k⟩ := h
    refine ⟨_, (pss_cons (ps_fld (pv 0) (pv 1) rfl)
      (pss_cons (ps_fld (pv 0) (pv 2) rfl)
      (pss_cons (ps_fld (pv 0) (pv 3) rfl)
      (pss_one (ps_fld (pv 0) (pv 4) rfl))))), ?_⟩
    walk_at "cx"
    walk_at "rd"
    intro H1 p1 k1
    walk_at "rd"
    intro H2 p2 k2
    walk_at "rd"
    intro H3 p3 k3
    walk_at "rd"
    intro H4 p4 k4
    walk_at "rd"
    exact k H4 ⟨dx, p4⟩ (((k1.trans k2 fun _ z => .inl z).trans k3 fun _ z => .inl z).trans k4 fun _ z => .inl z)
/-- the point of an item -/
def sp_MetricTree_point_of (c : Cl) (K : PySem.W.Frag) : Sp := fun vs H Q _ => ∃ mt t q kd it, vs = [.ref mt, .int kd, .ref t] ∧ SqT K H t (mtT kd q it) ∧ (kd = 3 ∨ kd = 4) ∧ Q (.ref q) H
theorem ok_MetricTree_point_of (T : Txt K mg c) : GM P w K mg base CX0 1 c.MetricTree "point_of" (sp_MetricTree_point_of c K) := by
  obtain ⟨f, fd, F, gf, gi⟩ := T.f_MetricTree_point_of
  obtain ⟨_, mg_LEAF⟩ := T.m_LEAF
  refine ⟨f, fd, ["self", "kind", "item"], F.ok sc_MetricTree_point_of ?_ (fun cdv A outer s0 H vs Q E hr h => ?_), ⟨gf, gi, F.kp⟩, (F.binds (ps := ["self", "kind", "item"]) fun _ _ _ _ _ _ us hl => match us, hl with | [_, _, _], _ => rfl)⟩
  · rintro vs H Q E ⟨_, _, _, _, _, rfl, _⟩
    rfl
  · obtain ⟨mt, t, q, kd, it, rfl, ht, hkd, k⟩ := h
    refine ⟨_, (pss_cons (ps_if (pt_cmpR op_eq (pv 1) (pe_glob (v := .int 3) rfl mg_LEAF ⟨_, rfl⟩) (nomark _)) (pss_one (ps_ret (pe_ix (r := rIxT K) ix_tup (pv 2) pe_int (fun _ _ => rfl)))) pss_nil)
      (pss_one (ps_ret (pe_ix (r := rIxT K) ix_tup (pv 2) pe_int (fun _ _ => rfl))))), ?_⟩
    walk_at "cx"
    walk_at "rd"
    rcases hkd with rfl | rfl
    · rw [decide_eq_true rfl]
      walk_at "rd"
      exact k
    · rw [decide_eq_false (by decide)]
      walk_at "rd"
      exact k
def sp_MetricTree_load (c : Cl) (K : PySem.W.Frag) : Sp := fun vs H Q _ => ∃ (mt p q : Addr) (r : Int) (D : Nat) (met : Str) (n kd : Int) (its : List Mt) (O Od : Addr → Prop) (s : PgS), vs = [.ref mt, .int n] ∧ MkA c H mt p r D met ∧ PagAt c H p q O Od s ∧ DecM D (gpg s n) kd its ∧ D ≤ 8 ∧
  ∀ H' t l ws, Kp F0 H H' → H' t = some (.tup [.int kd, .ref l]) → H l = none → H' l = some (.lst ws) → MtVs K H' kd ws its → Q (.ref t) H'
theorem ok_MetricTree_load (T : Txt K mg c) : GM P w K mg base CX0 4 c.MetricTree "load" (sp_MetricTree_load c K) := by
  obtain ⟨f, fd, F, gf, gi⟩ := T.f_MetricTree_load
  obtain ⟨_, mg_INNER⟩ := T.m_INNER
  obtain ⟨_, mg_LEAF⟩ := T.m_LEAF
  have tc_MetricTree := T.cl_MetricTree; have tn_MetricTree_pager := T.n_MetricTree_pager; have tn_MetricTree_root := T.n_MetricTree_root; have tn_MetricTree_dimensions := T.n_MetricTree_dimensions; have tn_MetricTree_metric := T.n_MetricTree_metric
  have tc_Pager := T.cl_Pager; have tn_Pager_device := T.n_Pager_device; have tn_Pager_committed := T.n_Pager_committed; have tn_Pager_dirty := T.n_Pager_dirty
  refine ⟨f, fd, ["self", "number"], F.ok sc_MetricTree_load ?_ (fun cdv A outer s0 H vs Q E hr h => ?_), ⟨gf, gi, F.kp⟩, (F.binds (ps := ["self", "number"]) fun _ _ _ _ _ _ us hl => match us, hl with | [_, _], _ => rfl)⟩
  · rintro vs H Q E ⟨_, _, _, _, _, _, _, _, _, _, _, _, rfl, _⟩
    rfl
  · obtain ⟨mt, p, q, r, D, met, n, kd, its, O, Od, s, rfl, hk, hP, hd, hD, k⟩ := h
    obtain ⟨dx, ho⟩ := hk.o
    obtain ⟨⟨dy, a1, a2, y1, y2, DP⟩, _⟩ := id hP
    have hop := DP.o
    have hok := hd.ok
    have b0 : ∃ k0 : Int, (gpg s n)[0]? = some k0 ∧ (gpg s n)[1]? = some (its.length : Int) ∧ (k0 = 4 ↔ kd = 4) ∧ (its ≠ [] → k0 = kd ∧ gpg s n = pad (encM kd its)) := by
      rcases hd with ⟨e, h12, _, _⟩ | ⟨e, rfl, rfl⟩
      · rw [e]
        exact ⟨kd, rfl, rfl, Iff.rfl, fun _ => ⟨rfl, rfl⟩⟩
      · rw [e]
        exact ⟨0, rfl, rfl, ⟨fun z => absurd z (by decide), fun z => absurd z (by decide)⟩, fun z => absurd rfl z⟩
    obtain ⟨k0, g0, g1, g2, g3⟩ := b0
    have lz := hd.lz
    refine ⟨_, (pss_cons (ps_set (i := 2) sc_MetricTree_load.nd rfl (Or.inl rfl) (pe_gm T.cl_Pager (ok_Pager_read T) (pe_fldK rfl (pv 0)) (hr.mono (by decide)) pass0S (pa_cons (pv 1) pa_nil)))
      (pss_cons (ps_set (i := 3) sc_MetricTree_load.nd rfl (Or.inl rfl) (pe_op op_mul pe_int (pe_fldK rfl (pv 0))))
      (pss_cons (ps_set (i := 4) sc_MetricTree_load.nd rfl (Or.inl rfl) (pe_lst pa_nil))
      (pss_cons (ps_set (i := 5) sc_MetricTree_load.nd rfl (Or.inl rfl) pe_int)
      (pss_cons (ps_for PassesOwn.never rfl (pi_range1 (by rfl) T.z_range (pa_cons (pe_ix (r := rIxL K) ix_list (pv 2) pe_int (fun _ _ => rfl)) pa_nil)) (pg_name (i := 6) sc_MetricTree_load.nd rfl (Or.inl rfl)) (C8.pss_cut (ps_if (pt_cmpR op_eq (pe_ix (r := rIxL K) ix_list (pv 2) pe_int (fun _ _ => rfl)) (pe_glob (v := .int 3) rfl mg_LEAF ⟨_, rfl⟩) (nomark _)) (pss_cons (ps_set (i := 7) sc_MetricTree_load.nd rfl (Or.inl rfl) (pe_g (ok_read_number T) (hr.mono (by decide)) pass0S (pa_cons (pv 2) (pa_cons (pv 5) (pa_cons pe_int pa_nil)))))
      (pss_cons (ps_set (i := 8) sc_MetricTree_load.nd rfl (Or.inl rfl) (pe_g (ok_read_number T) (hr.mono (by decide)) pass0S (pa_cons (pv 2) (pa_cons (pe_op op_add (pv 5) pe_int) (pa_cons pe_int pa_nil)))))
      (pss_one (ps_expr (pe_kBM rfl (pe_bm PySem.F.plainAttrs_list PySem.F.slot_list_append PySem.F.type_list_append mt_append (pv 4) (pa_cons (pe_tup (pa_cons (pv 7) (pa_cons (pv 8) (pa_cons (pe_g (ok_read_point T) (hr.mono (by decide)) pass0S (pa_cons (pv 2) (pa_cons (pe_op op_add (pv 5) pe_int) (pa_cons (pe_fldK rfl (pv 0)) pa_nil)))) pa_nil)))) pa_nil))))))) (pss_cons (ps_set (i := 9) sc_MetricTree_load.nd rfl (Or.inl rfl) (pe_g (ok_read_point T) (hr.mono (by decide)) pass0S (pa_cons (pv 2) (pa_cons (pv 5) (pa_cons (pe_fldK rfl (pv 0)) pa_nil)))))
      (pss_cons (ps_set (i := 10) sc_MetricTree_load.nd rfl (Or.inl rfl) (pe_g (ok_read_number T) (hr.mono (by decide)) pass0S (pa_cons (pv 2) (pa_cons (pe_op op_add (pv 5) (pv 3)) (pa_cons pe_int pa_nil)))))
      (pss_one (ps_expr (pe_kBM rfl (pe_bm PySem.F.plainAttrs_list PySem.F.slot_list_append PySem.F.type_list_append mt_append (pv 4) (pa_cons (pe_tup (pa_cons (pv 9) (pa_cons (pv 10) (pa_cons (pe_g (ok_read_number T) (hr.mono (by decide)) pass0S (pa_cons (pv 2) (pa_cons (pe_op op_add (pe_op op_add (pv 5) (pv 3)) pe_int) (pa_cons pe_int pa_nil)))) pa_nil)))) pa_nil))))))))
      (pss_one (ps_aug (i := 5) sc_MetricTree_load.nd rfl (Or.inl rfl) (pe_op op_add (pv 3) pe_int) ip_add))))
      (pss_one (ps_ret (pe_tup (pa_cons (pe_ifExp (pt_cmpR op_eq (pe_ix (r := rIxL K) ix_list (pv 2) pe_int (fun _ _ => rfl)) (pe_glob (v := .int 4) rfl mg_INNER ⟨_, rfl⟩) (nomark _)) (pe_glob (v := .int 4) rfl mg_INNER ⟨_, rfl⟩) (pe_glob (v := .int 3) rfl mg_LEAF ⟨_, rfl⟩)) (pa_cons (pv 4) pa_nil)))))))))), ?_⟩
    walk_at "cx"
    walk_at "rd"
    refine ⟨p, q, O, Od, s, n, rfl, hP, fun b H1 hb k1 e1 => ?_⟩
    have ho1 := k1.get ho id
    walk_at "rd"
    refine x_newL fun l H2 hl k2 e2 => ?_
    have e12 := k2.get e1 id
    walk_at "rd"
    refine x_ixL (v := .int its.length) (SqL.of e12) (atI_at 1 rfl (by rw [List.getElem?_map, g1]; rfl)) ?_
    walk_at "rd"
    refine wfor Wk.rng (fun k σ H' => ∃ ws u6 u7 u8 u9 u10, σ = [some (.ref mt), some (.int n), some (.ref b), some (.int (2 * (D : Int))), some (.ref l), some (.int (2 + (8 + 2 * D) * k : Nat)), u6, u7, u8, u9, u10] ∧ H' l = some (.lst ws) ∧ MtVs K H' kd ws (its.take k) ∧ Kp F0 H1 H')
      ⟨[], none, none, none, none, none, rfl, e2, .nil, k2⟩ (fun _ _ _ _ => trivial) ?_ ?_
    · rintro i x σ H3 ex ⟨ws, u6, u7, u8, u9, u10, rfl, e3, hv, k3⟩
      obtain ⟨hi, rfl⟩ := rgl_at ex
      have hi' : i < its.length := hi
      obtain ⟨it, ei⟩ : ∃ it, its[i]? = some it := ⟨_, List.getElem?_eq_getElem hi'⟩
      have io := hok it (List.mem_of_getElem? ei)
      have ne : its ≠ [] := fun z => by rw [z] at hi'; exact absurd hi' (by simp)
      obtain ⟨kk, ev⟩ := g3 ne
      obtain ⟨Z, eZ⟩ := padM_at (kd := kd) ei
      rw [← ev] at eZ
      have lA : (kd :: (its.length : Int) :: (its.take i).flatMap (encT kd)).length = 2 + (8 + 2 * D) * i := by
        rw [List.length_cons, List.length_cons, fmT_len fun x hx => hok x (List.mem_of_mem_take hx), List.length_take, Nat.min_eq_left (by omega)]
        omega
      generalize (kd :: (its.length : Int) :: (its.take i).flatMap (encT kd)) = A at eZ lA
      have e13 := k3.get e1 id
      have ho3 := k3.get ho1 id
      have lws := hv.length
      rw [List.length_take] at lws
      have tk1 : its.take (i + 1) = its.take i ++ [it] := by rw [List.take_succ, ei]; rfl
      have pn : 2 + (8 + 2 * D) * i + (2 * D + 8) = 2 + (8 + 2 * D) * (i + 1) := by rw [Nat.mul_succ]; omega
      generalize hpl : 2 + (8 + 2 * D) * i = pl at lA pn
      walk_at "rd"
      refine x_cut (fun σ' H' => ∃ v u7 u8 u9 u10, σ' = [some (.ref mt), some (.int n), some (.ref b), some (.int (2 * (D : Int))), some (.ref l), some (.int (pl : Nat)), some (.int (0 + (i : Int))), u7, u8, u9, u10] ∧ H' l = some (.lst (ws ++ [v])) ∧ MtV K H' kd v it ∧ Kp (F1 l) H3 H') ?_ ?_
      · walk_at "rd"
        refine x_ixL (v := .int k0) (SqL.of e13) (atI_at 0 rfl (by rw [List.getElem?_map, g0]; rfl)) ?_
        walk_at "rd"
        rcases hd.kk with k3' | k4'
        · subst k3'
          have eI : gpg s n = A ++ (wn 4 it.x ++ (wn 4 it.y ++ (wp it.p ++ Z))) := by
            rw [eZ]; unfold encT; rw [if_neg (by decide)]; simp only [List.append_assoc]
          rw [decide_eq_true kk]
          walk_at "rd"
          refine ⟨b, gpg s n, pl, 4, rfl, SqL.of e13, fun H4 k4 => ?_⟩
          rw [show rn (((gpg s n).drop pl).take 4) = it.x by rw [eI]; exact rn_at lA io.x0 io.x1]
          have e14 := k4.get e13 id
          walk_at "rd"
          refine ⟨b, gpg s n, pl + 4, 4, rfl, SqL.of e14, fun H5 k5 => ?_⟩
          rw [show rn (((gpg s n).drop (pl + 4)).take 4) = it.y by
            rw [eI, ← List.append_assoc]
            exact rn_at (by rw [List.length_append, lA, wn_len]) io.y0 io.y1]
          have e15 := k5.get e14 id
          have ho5 := k5.get (k4.get ho3 id) id
          walk_at "rd"
          refine ⟨b, gpg s n, pl + 8, D, rfl, by omega, SqL.of e15, fun p1 H6 hp1 k6 e6 => ?_⟩
          rw [show rp (gpg s n) (pl + 8) D = it.p by
            rw [eI, ← List.append_assoc, ← List.append_assoc, ← List.append_assoc, show pl + 8 = (A ++ wn 4 it.x ++ wn 4 it.y).length by rw [List.length_append, List.length_append, lA, wn_len, wn_len], ← io.l]
            exact rp_wp io.c _ _] at e6
          walk_at "rd"
          refine x_newT fun t7 H7 ht7 k7 e7 => ?_
          have k37 : Kp F0 H3 H7 := ((k4.trans k5 fun _ z => z.elim).trans k6 fun _ z => z.elim).trans k7 fun _ z => z.elim
          walk_at "rd"
          refine x_app (k37.get e3 id) (by omega) fun H8 e8 k8 => ?_
          exact ⟨_, _, _, _, _, rfl, e8, ⟨t7, p1, rfl, k8.sqT (SqT.of e7), k8.sqT (k7.sqT (SqT.of e6))⟩, (k37.mono fun _ z => z.elim).trans k8 fun _ z => .inl z⟩
        · subst k4'
          have eI : gpg s n = A ++ (wp it.p ++ (wn 4 it.x ++ (wn 4 it.y ++ Z))) := by
            rw [eZ]; unfold encT; rw [if_pos rfl]; simp only [List.append_assoc]
          have lP : (wp it.p).length = 2 * D := by rw [wp_len, io.l]
          rw [decide_eq_false (by rw [kk]; decide)]
          walk_at "rd"
          refine ⟨b, gpg s n, pl, D, rfl, by omega, SqL.of e13, fun p1 H4 hp1 k4 e4 => ?_⟩
          rw [show rp (gpg s n) pl D = it.p by
            rw [eI, ← List.append_assoc, ← lA, ← io.l]
            exact rp_wp io.c _ _] at e4
          have e14 := k4.get e13 id
          walk_at "rd"
          refine ⟨b, gpg s n, pl + 2 * D, 4, by rw [show (pl : Int) + 2 * (D : Int) = ((pl + 2 * D : Nat) : Int) by omega]; rfl, SqL.of e14, fun H5 k5 => ?_⟩
          rw [show rn (((gpg s n).drop (pl + 2 * D)).take 4) = it.x by
            rw [eI, ← List.append_assoc]
            exact rn_at (by rw [List.length_append, lA, lP]) io.x0 io.x1]
          have e15 := k5.get e14 id
          walk_at "rd"
          refine ⟨b, gpg s n, pl + 2 * D + 4, 4, by rw [show (pl : Int) + 2 * (D : Int) + 4 = ((pl + 2 * D + 4 : Nat) : Int) by omega]; rfl, SqL.of e15, fun H6 k6 => ?_⟩
          rw [show rn (((gpg s n).drop (pl + 2 * D + 4)).take 4) = it.y by
            rw [eI, ← List.append_assoc, ← List.append_assoc]
            exact rn_at (by rw [List.length_append, List.length_append, lA, lP, wn_len]) io.y0 io.y1]
          walk_at "rd"
          refine x_newT fun t7 H7 ht7 k7 e7 => ?_
          have k47 : Kp F0 H4 H7 := (k5.trans k6 fun _ z => z.elim).trans k7 fun _ z => z.elim
          have k37 : Kp F0 H3 H7 := k4.trans k47 fun _ z => z.elim
          walk_at "rd"
          refine x_app (k37.get e3 id) (by omega) fun H8 e8 k8 => ?_
          exact ⟨_, _, _, _, _, rfl, e8, ⟨t7, p1, rfl, k8.sqT (SqT.of e7), k8.sqT (k47.sqT (SqT.of e4))⟩, (k37.mono fun _ z => z.elim).trans k8 fun _ z => .inl z⟩
      · rintro σ' H8 ⟨v, w7, w8, w9, w10, rfl, e8, hit, k8⟩
        walk_at "rd"
        refine x_augv rfl ?_
        walk_at "rd"
        refine x_ipI ?_
        refine ⟨ws ++ [v], some (.int (0 + (i : Int))), w7, w8, w9, w10, ?_, e8, by rw [tk1]; exact pr_app (hv.mono fun _ _ z => z.kp k8) (.cons hit .nil), fun x o hx _ => k8.get (k3.get hx id) (ne_of_none hx hl)⟩
        have ez : (pl : Int) + (2 * (D : Int) + 8) = ((2 + (8 + 2 * D) * (i + 1) : Nat) : Int) := by rw [← pn]; push_cast; omega
        rw [← ez]
        rfl
    · rintro σ H3 ⟨ws, u6, u7, u8, u9, u10, rfl, e3, hv, k3⟩
      have e13 := k3.get e1 id
      have lr : (rgl 0 (its.length : Int).toNat).length = its.length := by rw [rgl_len]; omega
      rw [lr, List.take_length] at hv
      walk_at "rd"
      refine x_ixL (v := .int k0) (SqL.of e13) (atI_at 0 rfl (by rw [List.getElem?_map, g0]; rfl)) ?_
      walk_at "rd"
      have fin : ∀ H4 t, Kp F0 H3 H4 → H4 t = some (.tup [.int kd, .ref l]) → Q (.ref t) H4 := fun H4 t k4 e4 =>
        k H4 t l ws ((k1.trans k3 fun _ z => z.elim).trans k4 fun _ z => z.elim) e4 (k1.free hl id) (k4.get e3 id) (hv.mono fun _ _ z => z.kp k4)
      refine ite_dec (fun e => ?_) fun e => ?_
      · walk_at "rd"
        refine x_newT fun t H4 ht k4 e4 => ?_
        exact fin H4 t k4 (by rw [e4, g2.mp e])
      · walk_at "rd"
        refine x_newT fun t H4 ht k4 e4 => ?_
        refine fin H4 t k4 ?_
        rw [e4]
        rcases hd.kk with z | z
        · rw [z]
        · exact absurd (g2.mpr z) e
def sp_MetricTree_store (c : Cl) (K : PySem.W.Frag) : Sp := fun vs H Q _ => ∃ (mt p q : Addr) (r D : Int) (met : Str) (n kd : Int) (l : Addr) (ws : List V) (its : List Mt) (O Od : Addr → Prop) (s : PgS), vs = [.ref mt, .int n, .int kd, .ref l] ∧ MkA c H mt p r D met ∧ PagAt c H p q O Od s ∧ H l = some (.lst ws) ∧ MtVs K H kd ws its ∧ (∀ it ∈ its, it.p.length ≤ 8) ∧ (kd = 3 ∨ kd = 4) ∧ its.length ≤ 9 ∧ s.dir.length ≤ 1000000 ∧
  ∀ H' O', PagAt c H' p q O' Od (pwr n (pad (encM kd its)) s) → Stp O O' H H' → Q .non H'
theorem ok_MetricTree_store (T : Txt K mg c) : GM P w K mg base CX0 3 c.MetricTree "store" (sp_MetricTree_store c K) := by
  obtain ⟨f, fd, F, gf, gi⟩ := T.f_MetricTree_store
  obtain ⟨_, mg_LEAF⟩ := T.m_LEAF
  have tc_MetricTree := T.cl_MetricTree; have tn_MetricTree_pager := T.n_MetricTree_pager; have tn_MetricTree_root := T.n_MetricTree_root; have tn_MetricTree_dimensions := T.n_MetricTree_dimensions; have tn_MetricTree_metric := T.n_MetricTree_metric
  have tc_Pager := T.cl_Pager; have tn_Pager_device := T.n_Pager_device; have tn_Pager_committed := T.n_Pager_committed; have tn_Pager_dirty := T.n_Pager_dirty
  refine ⟨f, fd, ["self", "number", "kind", "items"], F.ok sc_MetricTree_store ?_ (fun cdv A outer s0 H vs Q E hr h => ?_), ⟨gf, gi, F.kp⟩, (F.binds (ps := ["self", "number", "kind", "items"]) fun _ _ _ _ _ _ us hl => match us, hl with | [_, _, _, _], _ => rfl)⟩
  · rintro vs H Q E ⟨_, _, _, _, _, _, _, _, _, _, _, _, _, _, rfl, _⟩
    rfl
  · obtain ⟨mt, p, q, r, D, met, n, kd, l, ws, its, O, Od, s, rfl, hk, hP, hl, hv, hp8, hkd, lz, ls, k⟩ := h
    obtain ⟨dx, ho⟩ := hk.o
    obtain ⟨⟨dy, a1, a2, y1, y2, DP⟩, _⟩ := id hP
    have hop := DP.o
    have lw := hv.length
    have fl : ∀ j, ((its.take j).flatMap (encT kd)).length ≤ 24 * j := fun j => by
      have := fm_le (f := encT kd) (g := its.take j) (n := 24) fun x hx => by rw [encT_len]; have := hp8 x (List.mem_of_mem_take hx); omega
      rw [List.length_take] at this
      have h2 : 24 * min j its.length ≤ 24 * j := Nat.mul_le_mul_left _ (Nat.min_le_left _ _)
      omega
    refine ⟨_, (pss_cons (ps_set (i := 4) sc_MetricTree_store.nd rfl (Or.inl rfl) (pe_lst (pa_cons (pv 2) (pa_cons (pe_callB (r := rLenQ K) c_len (by rfl) T.z_len PySem.boot_len (pa_cons (pv 3) pa_nil)) pa_nil))))
      (pss_cons (ps_for PassesOwn.never rfl (pi_listK rfl (pv 3)) (pg_name (i := 5) sc_MetricTree_store.nd rfl (Or.inl rfl)) (pss_one (ps_if (pt_cmpR op_eq (pv 2) (pe_glob (v := .int 3) rfl mg_LEAF ⟨_, rfl⟩) (nomark _)) (pss_one (ps_expr (pe_kBM rfl (pe_bm PySem.F.plainAttrs_list PySem.F.slot_list_extend PySem.F.type_list_extend mt_extend (pv 4) (pa_cons (pe_op op_cat (pe_op op_cat (pe_g (ok_write_number T) (hr.mono (by decide)) pass0S (pa_cons pe_int (pa_cons (pe_ix (r := rIxT K) ix_tup (pv 5) pe_int (fun _ _ => rfl)) pa_nil))) (pe_g (ok_write_number T) (hr.mono (by decide)) pass0S (pa_cons pe_int (pa_cons (pe_ix (r := rIxT K) ix_tup (pv 5) pe_int (fun _ _ => rfl)) pa_nil)))) (pe_g (ok_write_point T) (hr.mono (by decide)) pass0S (pa_cons (pe_ix (r := rIxT K) ix_tup (pv 5) pe_int (fun _ _ => rfl)) pa_nil))) pa_nil))))) (pss_one (ps_expr (pe_kBM rfl (pe_bm PySem.F.plainAttrs_list PySem.F.slot_list_extend PySem.F.type_list_extend mt_extend (pv 4) (pa_cons (pe_op op_cat (pe_op op_cat (pe_g (ok_write_point T) (hr.mono (by decide)) pass0S (pa_cons (pe_ix (r := rIxT K) ix_tup (pv 5) pe_int (fun _ _ => rfl)) pa_nil)) (pe_g (ok_write_number T) (hr.mono (by decide)) pass0S (pa_cons pe_int (pa_cons (pe_ix (r := rIxT K) ix_tup (pv 5) pe_int (fun _ _ => rfl)) pa_nil)))) (pe_g (ok_write_number T) (hr.mono (by decide)) pass0S (pa_cons pe_int (pa_cons (pe_ix (r := rIxT K) ix_tup (pv 5) pe_int (fun _ _ => rfl)) pa_nil)))) pa_nil))))))))
      (pss_one (ps_expr (pe_gm T.cl_Pager (ok_Pager_write T) (pe_fldK rfl (pv 0)) (hr.mono (by decide)) pass0S (pa_cons (pv 1) (pa_cons (pe_g (ok_filled T) (hr.mono (by decide)) pass0S (pa_cons (pv 4) pa_nil)) pa_nil))))))), ?_⟩
    walk_at "cx"
    walk_at "rd"
    rw [lw]
    refine x_newL fun b H1 hb k1 e1 => ?_
    have hl1 := k1.get hl id
    walk_at "rd"
    refine wfor (Wk.list (xs := ws)) (fun i σ H' => ∃ u, σ = [some (.ref mt), some (.int n), some (.int kd), some (.ref l), some (.ref b), u] ∧ H' b = some (.lst ((kd :: (its.length : Int) :: (its.take i).flatMap (encT kd)).map V.int)) ∧ Kp F0 H H')
      ⟨none, rfl, e1, k1⟩ (fun i σ H' ⟨_, _, _, kk⟩ => SqL.of (kk.get hl id)) ?_ ?_
    · rintro i v σ H2 ex ⟨u, rfl, e2, k2⟩
      obtain ⟨it, ei, hit⟩ := pgt hv ex
      obtain ⟨t, qq, rfl, ht, hq⟩ := hit.kp k2
      have hi : i < its.length := (List.getElem?_eq_some_iff.mp ei).1
      have l8 := hp8 it (List.mem_of_getElem? ei)
      have fi := fl i
      have tk : (its.take (i + 1)).flatMap (encT kd) = (its.take i).flatMap (encT kd) ++ encT kd it := by
        rw [List.take_succ, ei, List.flatMap_append]
        show _ ++ [it].flatMap _ = _
        rw [List.flatMap_cons, List.flatMap_nil, List.append_nil]
      walk_at "rd"
      rcases hkd with rfl | rfl
      · rw [decide_eq_true rfl]
        walk_at "rd"
        refine ⟨4, it.x, rfl, by decide, fun b1 H3 hb1 k3 e3 => ?_⟩
        have ht3 := k3.sqT ht
        walk_at "rd"
        refine ⟨4, it.y, rfl, by decide, fun b2 H4 hb2 k4 e4 => ?_⟩
        walk_at "rd"
        refine x_catL (k4.get e3 id) e4 (by rw [List.length_map, List.length_map, wn_len, wn_len, sizeLine_eq]; omega) fun b5 H5 hb5 k5 e5 => ?_
        have k25 : Kp F0 H2 H5 := (k3.trans k4 fun _ z => z.elim).trans k5 fun _ z => z.elim
        have ht5 := k25.sqT ht
        walk_at "rd"
        refine ⟨qq, it.p, rfl, k25.sqT hq, by omega, fun b6 H6 hb6 k6 e6 => ?_⟩
        walk_at "rd"
        refine x_catL (k6.get e5 id) e6 (by simp only [List.length_append, List.length_map, wn_len, wp_len, sizeLine_eq]; omega) fun b7 H7 hb7 k7 e7 => ?_
        have k27 : Kp F0 H2 H7 := (k25.trans k6 fun _ z => z.elim).trans k7 fun _ z => z.elim
        have nb : b ≠ b7 := ne_of_none ((k25.trans k6 fun _ z => z.elim).get e2 id) hb7
        walk_at "rd"
        refine x_ext (k27.get e2 id) e7 (by simp only [List.length_append, List.length_map, List.length_cons, wn_len, wp_len]; omega) fun H8 e8 k8 => ?_
        refine ⟨_, rfl, ?_, fun x o hx _ => k8.get (k27.get (k2.get hx id) id) (ne_of_none hx hb)⟩
        rw [e8, tk]
        unfold encT
        rw [if_neg (by decide)]
        simp only [List.map_append, List.map_cons, List.cons_append, List.append_assoc]
      · rw [decide_eq_false (by decide)]
        walk_at "rd"
        refine ⟨qq, it.p, rfl, hq, by omega, fun b1 H3 hb1 k3 e3 => ?_⟩
        have ht3 := k3.sqT ht
        walk_at "rd"
        refine ⟨4, it.x, rfl, by decide, fun b2 H4 hb2 k4 e4 => ?_⟩
        walk_at "rd"
        refine x_catL (k4.get e3 id) e4 (by rw [List.length_map, List.length_map, wn_len, wp_len, sizeLine_eq]; omega) fun b5 H5 hb5 k5 e5 => ?_
        have k25 : Kp F0 H2 H5 := (k3.trans k4 fun _ z => z.elim).trans k5 fun _ z => z.elim
        have ht5 := k25.sqT ht
        walk_at "rd"
        refine ⟨4, it.y, rfl, by decide, fun b6 H6 hb6 k6 e6 => ?_⟩
        walk_at "rd"
        refine x_catL (k6.get e5 id) e6 (by simp only [List.length_append, List.length_map, wn_len, wp_len, sizeLine_eq]; omega) fun b7 H7 hb7 k7 e7 => ?_
        have k27 : Kp F0 H2 H7 := (k25.trans k6 fun _ z => z.elim).trans k7 fun _ z => z.elim
        have nb : b ≠ b7 := ne_of_none ((k25.trans k6 fun _ z => z.elim).get e2 id) hb7
        walk_at "rd"
        refine x_ext (k27.get e2 id) e7 (by simp only [List.length_append, List.length_map, List.length_cons, wn_len, wp_len]; omega) fun H8 e8 k8 => ?_
        refine ⟨_, rfl, ?_, fun x o hx _ => k8.get (k27.get (k2.get hx id) id) (ne_of_none hx hb)⟩
        rw [e8, tk]
        unfold encT
        rw [if_pos rfl]
        simp only [List.map_append, List.map_cons, List.cons_append, List.append_assoc]
    · rintro σ H2 ⟨u, rfl, e2, k2⟩
      rw [lw, List.take_length] at e2
      have fa := fl its.length
      rw [List.take_length] at fa
      have ho2 := k2.get ho id
      have hop2 := k2.get hop id
      walk_at "rd"
      refine ⟨b, encM kd its, rfl, e2, by unfold encM; rw [List.length_cons, List.length_cons]; omega, fun b3 H3 hb3 k3 e3 => ?_⟩
      have k03 : Kp F0 H H3 := k2.trans k3 fun _ z => z.elim
      refine ⟨p, q, O, Od, s, n, b3, _, rfl, hP.same k03, SqL.of e3, ls, fun H4 O4 P4 t4 => ?_⟩
      walk_at "rd"
      exact k H4 O4 P4 ((Stp.pure k03).trans t4)
end
/-! ### radii, pivots and halves, in plain Lean -/
def rch (m : Str) (pv : List Int) (kd : Int) (it : Mt) : Int := dist m pv it.p + if kd = 4 then it.x else 0
def rad (m : Str) (pv : List Int) (kd : Int) (its : List Mt) : Int := its.foldl (fun r it => max r (rch m pv kd it)) 0
def dij (m : Str) (ps : List (List Int)) (i j : Nat) : Int := dist m (ps.getD i []) (ps.getD j [])
def pvS (m : Str) (ps : List (List Int)) (i : Nat) (b : Nat × Nat) (k : Nat) : Nat × Nat := if dij m ps b.1 b.2 < dij m ps i (i + 1 + k) then (i, i + 1 + k) else b
def pvR (m : Str) (ps : List (List Int)) (b : Nat × Nat) (i : Nat) : Nat × Nat := (List.range (ps.length - (i + 1))).foldl (pvS m ps i) b
def piv (m : Str) (ps : List (List Int)) : Nat × Nat := (List.range ps.length).foldl (pvR m ps) (0, 1)
theorem rg_fold {α : Type} (f : α → Nat → α) (a : α) (n : Nat) : (List.range (n + 1)).foldl f a = f ((List.range n).foldl f a) n := by
  rw [List.range_succ, List.foldl_append]; rfl
def Bn (n : Nat) (b : Nat × Nat) : Prop := b.1 < b.2 ∧ b.2 < n
theorem pvS_bn {m : Str} {ps : List (List Int)} {i : Nat} {b : Nat × Nat} {k : Nat} (h : Bn ps.length b) (hk : i + 1 + k < ps.length) : Bn ps.length (pvS m ps i b k) := by
  unfold pvS
  split
  · exact ⟨by show i < i + 1 + k; omega, hk⟩
  · exact h
theorem pvR_bn' {m : Str} {ps : List (List Int)} {i : Nat} {b : Nat × Nat} (h : Bn ps.length b) : ∀ n, n ≤ ps.length - (i + 1) → Bn ps.length ((List.range n).foldl (pvS m ps i) b)
  | 0, _ => h
  | n + 1, hn => by
    rw [rg_fold]
    exact pvS_bn (pvR_bn' h n (by omega)) (by omega)
theorem pvR_bn {m : Str} {ps : List (List Int)} {i : Nat} {b : Nat × Nat} (h : Bn ps.length b) : Bn ps.length (pvR m ps b i) := pvR_bn' h _ (Nat.le_refl _)
theorem piv_bn' {m : Str} {ps : List (List Int)} (h : 2 ≤ ps.length) : ∀ n, Bn ps.length ((List.range n).foldl (pvR m ps) (0, 1))
  | 0 => ⟨Nat.zero_lt_one, h⟩
  | n + 1 => by
    rw [rg_fold]
    exact pvR_bn (piv_bn' h n)
theorem piv_bn {m : Str} {ps : List (List Int)} (h : 2 ≤ ps.length) : Bn ps.length (piv m ps) := piv_bn' h _
/-- the items whose places b takes -/
def hP (b : Nat → Bool) (its : List Mt) : List Mt := (its.zipIdx.filter fun q => b q.2).map Prod.fst
theorem hP_snoc (b : Nat → Bool) (l : List Mt) (x : Mt) : hP b (l ++ [x]) = hP b l ++ if b l.length = true then [x] else [] := by
  unfold hP
  rw [List.zipIdx_append, List.filter_append, List.map_append]
  congr 1
  show (List.filter (fun q : Mt × Nat => b q.2) [(x, 0 + l.length)]).map Prod.fst = _
  rw [Nat.zero_add, List.filter_cons]
  split <;> rfl
theorem rev_ind {α : Type} {P : List α → Prop} (h0 : P []) (hs : ∀ l x, P l → P (l ++ [x])) (l : List α) : P l := by
  have : ∀ n, ∀ l : List α, l.length = n → P l := by
    intro n
    induction n with
    | zero => intro l e; rw [List.length_eq_zero_iff.mp e]; exact h0
    | succ n ih =>
      intro l e
      rcases List.eq_nil_or_concat l with z | ⟨l', x, z⟩
      · rw [z]; exact h0
      · rw [List.concat_eq_append] at z
        rw [z] at e ⊢
        rw [List.length_append, List.length_singleton] at e
        exact hs _ _ (ih l' (by omega))
  exact this _ l rfl
theorem hP_mem {b : Nat → Bool} {l : List Mt} {x : Mt} (h : x ∈ hP b l) : x ∈ l := by
  unfold hP at h
  obtain ⟨⟨y, k⟩, hq, rfl⟩ := List.mem_map.mp h
  have := (List.mem_filter.mp hq).1
  exact List.mem_of_getElem? (List.mem_zipIdx_iff_getElem?.mp this)
theorem hP_get {b : Nat → Bool} {l : List Mt} {x : Mt} {k : Nat} (e : l[k]? = some x) (h : b k = true) : x ∈ hP b l := by
  unfold hP
  exact List.mem_map.mpr ⟨(x, k), List.mem_filter.mpr ⟨List.mem_zipIdx_iff_getElem?.mpr e, h⟩, rfl⟩
theorem hP_perm (b : Nat → Bool) (l : List Mt) : (hP (fun k => !b k) l ++ hP b l).Perm l := by
  unfold hP
  rw [← List.map_append]
  have h := (List.filter_append_perm (fun q : Mt × Nat => !b q.2) l.zipIdx).map Prod.fst
  rw [List.zipIdx_map_fst] at h
  simpa only [Bool.not_not] using h
theorem hP_len (b : Nat → Bool) (l : List Mt) : (hP (fun k => !b k) l).length + (hP b l).length = l.length := by
  rw [← List.length_append]; exact (hP_perm b l).length_eq
/-- is place k of the second half? -/
def secB (m : Str) (ps : List (List Int)) (q : Nat × Nat) (k : Nat) : Bool := decide (k = q.2) || decide (dij m ps q.2 k < dij m ps q.1 k)
def hS (m : Str) (its : List Mt) : List Mt := hP (secB m (its.map Mt.p) (piv m (its.map Mt.p))) its
def hF (m : Str) (its : List Mt) : List Mt := hP (fun k => !secB m (its.map Mt.p) (piv m (its.map Mt.p)) k) its
def pv1 (m : Str) (its : List Mt) : List Int := (its.map Mt.p).getD (piv m (its.map Mt.p)).1 []
def pv2 (m : Str) (its : List Mt) : List Int := (its.map Mt.p).getD (piv m (its.map Mt.p)).2 []
/-! ### walks -/
def PtV (K : PySem.W.Frag) (H : Hp) (v : V) (p : List Int) : Prop := ∃ q, v = .ref q ∧ SqT K H q (p.map V.int)
theorem PtV.kp {K : PySem.W.Frag} {F : Addr → Prop} {H H' : Hp} {v : V} {p : List Int} (k : Kp F H H') (h : PtV K H v p) : PtV K H' v p := by
  obtain ⟨q, rfl, h⟩ := h
  exact ⟨q, rfl, k.sqT h⟩
theorem ptv_at {K : PySem.W.Frag} {H : Hp} {pvs : List V} {ps : List (List Int)} {D : Nat} (h : Paired (PtV K H) pvs ps) (hl : ∀ p ∈ ps, p.length = D) {i : Nat} (hi : i < ps.length) : ∃ q, pvs[i]? = some (.ref q) ∧ SqT K H q ((ps.getD i []).map V.int) ∧ (ps.getD i []).length = D := by
  have e : ps[i]? = some (ps.getD i []) := by rw [List.getD_eq_getElem?_getD, List.getElem?_eq_getElem hi]; rfl
  obtain ⟨v, ev, q, rfl, hq⟩ := pgetr h e
  exact ⟨q, ev, hq, hl _ (List.mem_of_getElem? e)⟩
section
variable {P : Program} {w : World} {K : PySem.W.Frag} {mg : Str → Option Value} {base : Heap} {c : Cl}
def sp_pair_of_pivots (K : PySem.W.Frag) : Sp := fun vs H Q _ => ∃ (l : Addr) (m : Str) (pvs : List V) (ps : List (List Int)) (D : Nat), vs = [.ref l, .str m] ∧ H l = some (.lst pvs) ∧ Paired (PtV K H) pvs ps ∧ (∀ p ∈ ps, p.length = D) ∧ 0 < D ∧ D ≤ 1000 ∧ 2 ≤ ps.length ∧ ps.length ≤ 1000 ∧
  ∀ H' t, Kp F0 H H' → SqT K H' t [.int ((piv m ps).1 : Nat), .int ((piv m ps).2 : Nat)] → Q (.ref t) H'
theorem ok_pair_of_pivots (T : Txt K mg c) : GF P w K mg base CX0 2 "pair_of_pivots" (sp_pair_of_pivots K) := by
  obtain ⟨f, fd, F, gm⟩ := T.f_pair_of_pivots
  refine ⟨f, fd, ["points", "metric"], F.ok sc_pair_of_pivots ?_ (fun cdv A outer s0 H vs Q E hr h => ?_), gm, F.kp, (F.binds (ps := ["points", "metric"]) fun _ _ _ _ _ _ us hl => match us, hl with | [_, _], _ => rfl)⟩
  · rintro vs H Q E ⟨_, _, _, _, _, rfl, _⟩
    rfl
  · obtain ⟨l, m, pvs, ps, D, rfl, hl, hp, hD, D0, D1, n2, n3, k⟩ := h
    have lp := hp.length
    refine ⟨_, (pss_cons (ps_set (i := 2) sc_pair_of_pivots.nd rfl (Or.inl rfl) (pe_tup (pa_cons pe_int (pa_cons pe_int pa_nil))))
      (pss_cons (ps_for PassesOwn.never rfl (pi_range1 (by rfl) T.z_range (pa_cons (pe_callB (r := rLenQ K) c_len (by rfl) T.z_len PySem.boot_len (pa_cons (pv 0) pa_nil)) pa_nil)) (pg_name (i := 3) sc_pair_of_pivots.nd rfl (Or.inl rfl)) (pss_one (ps_for PassesOwn.never rfl (pi_range2 (by rfl) T.z_range (pa_cons (pe_op op_add (pv 3) pe_int) (pa_cons (pe_callB (r := rLenQ K) c_len (by rfl) T.z_len PySem.boot_len (pa_cons (pv 0) pa_nil)) pa_nil))) (pg_name (i := 4) sc_pair_of_pivots.nd rfl (Or.inl rfl)) (pss_one (ps_if (pt_cmpR op_gt (pe_g (ok_distance T) (hr.mono (by decide)) pass0S (pa_cons (pv 1) (pa_cons (pe_ix (r := rIxL K) ix_list (pv 0) (pv 3) (fun _ _ => rfl)) (pa_cons (pe_ix (r := rIxL K) ix_list (pv 0) (pv 4) (fun _ _ => rfl)) pa_nil)))) (pe_g (ok_distance T) (hr.mono (by decide)) pass0S (pa_cons (pv 1) (pa_cons (pe_ix (r := rIxL K) ix_list (pv 0) (pe_ix (r := rIxT K) ix_tup (pv 2) pe_int (fun _ _ => rfl)) (fun _ _ => rfl)) (pa_cons (pe_ix (r := rIxL K) ix_list (pv 0) (pe_ix (r := rIxT K) ix_tup (pv 2) pe_int (fun _ _ => rfl)) (fun _ _ => rfl)) pa_nil)))) (nomark _)) (pss_one (ps_set (i := 2) sc_pair_of_pivots.nd rfl (Or.inl rfl) (pe_tup (pa_cons (pv 3) (pa_cons (pv 4) pa_nil))))) pss_nil)))))
      (pss_one (ps_ret (pv 2))))), ?_⟩
    walk_at "cx"
    walk_at "rd"
    refine x_newT fun t1 H1 ht1 k1 e1 => ?_
    have hl1 := k1.get hl id
    walk_at "rd"
    rw [lp]
    refine wfor Wk.rng (fun i σ H' => ∃ t u v, σ = [some (.ref l), some (.str m), some (.ref t), u, v] ∧ Kp F0 H H' ∧ SqT K H' t [.int (((List.range i).foldl (pvR m ps) (0, 1)).1 : Nat), .int (((List.range i).foldl (pvR m ps) (0, 1)).2 : Nat)])
      ⟨t1, none, none, rfl, k1, SqT.of e1⟩ (fun _ _ _ _ => trivial) ?_ ?_
    · rintro i x σ H2 ex ⟨t, u, v, rfl, k2, ht2⟩
      obtain ⟨hi, rfl⟩ := rgl_at ex
      have hi' : i < ps.length := hi
      have hl2 := k2.get hl id
      have B0 := piv_bn' (m := m) n2 i
      rw [rg_fold]
      generalize (List.range i).foldl (pvR m ps) (0, 1) = b0 at ht2 B0
      walk_at "rd"
      rw [lp]
      have en : ((ps.length : Int) - (0 + (i : Int) + 1)).toNat = ps.length - (i + 1) := by omega
      rw [en]
      refine wfor Wk.rng (fun j σ H' => ∃ t v, σ = [some (.ref l), some (.str m), some (.ref t), some (.int (0 + (i : Nat))), v] ∧ Kp F0 H H' ∧ SqT K H' t [.int (((List.range j).foldl (pvS m ps i) b0).1 : Nat), .int (((List.range j).foldl (pvS m ps i) b0).2 : Nat)])
        ⟨t, v, rfl, k2, ht2⟩ (fun _ _ _ _ => trivial) ?_ ?_
      · rintro j x σ H3 ex ⟨t3, v3, rfl, k3, ht3⟩
        obtain ⟨hj, rfl⟩ := rgl_at ex
        have hj' : i + 1 + j < ps.length := by omega
        have B3 := pvR_bn' (m := m) (i := i) B0 j (by omega)
        rw [rg_fold]
        generalize (List.range j).foldl (pvS m ps i) b0 = b3 at ht3 B3
        have hl3 := k3.get hl id
        have hp3 := hp.mono fun _ _ z => z.kp k3
        obtain ⟨qi, gi, si, li⟩ := ptv_at hp3 hD hi'
        obtain ⟨qj, gj, sj, lj⟩ := ptv_at hp3 hD hj'
        obtain ⟨qa, ga, sa, la⟩ := ptv_at hp3 hD (i := b3.1) (by have := B3.1; have := B3.2; omega)
        obtain ⟨qb, gb, sb, lb⟩ := ptv_at hp3 hD B3.2
        walk_at "rd"
        refine x_ixL (v := .ref qi) (SqL.of hl3) (atI_at i (by omega) gi) ?_
        walk_at "rd"
        refine x_ixL (v := .ref qj) (SqL.of hl3) (atI_at (i + 1 + j) (by omega) gj) ?_
        walk_at "rd"
        refine ⟨m, qi, qj, _, _, rfl, si, sj, by omega, by omega, by omega, fun H4 k4 => ?_⟩
        have ht4 := k4.sqT ht3
        have hl4 := k4.get hl3 id
        walk_at "rd"
        refine x_ixL (v := .ref qa) (SqL.of hl4) (atI_at b3.1 rfl ga) ?_
        walk_at "rd"
        refine x_ixL (v := .ref qb) (SqL.of hl4) (atI_at b3.2 rfl gb) ?_
        walk_at "rd"
        refine ⟨m, qa, qb, _, _, rfl, k4.sqT sa, k4.sqT sb, by omega, by omega, by omega, fun H5 k5 => ?_⟩
        have k35 : Kp F0 H3 H5 := k4.trans k5 fun _ z => z.elim
        walk_at "rd"
        unfold pvS
        refine ite_dec (fun e => ?_) fun e => ?_
        · rw [if_pos (show dij m ps b3.1 b3.2 < dij m ps i (i + 1 + j) by unfold dij; omega)]
          walk_at "rd"
          refine x_newT fun t6 H6 ht6 k6 e6 => ?_
          have e6 : H6 t6 = some (.tup [.int ((i : Nat) : Int), .int ((i + 1 + j : Nat) : Int)]) := by
            rw [e6, show (0 : Int) + (i : Int) = ((i : Nat) : Int) by omega, show (i : Int) + 1 + (j : Int) = ((i + 1 + j : Nat) : Int) by omega]
          exact ⟨t6, _, rfl, (k3.trans k35 fun _ z => z.elim).trans k6 fun _ z => z.elim, SqT.of e6⟩
        · rw [if_neg (show ¬ dij m ps b3.1 b3.2 < dij m ps i (i + 1 + j) by unfold dij; omega)]
          walk_at "rd"
          exact ⟨t3, _, rfl, k3.trans k35 fun _ z => z.elim, k35.sqT ht3⟩
      · rintro σ H3 ⟨t3, v3, rfl, k3, ht3⟩
        rw [rgl_len] at ht3
        exact ⟨t3, _, _, rfl, k3, ht3⟩
    · rintro σ H2 ⟨t, u, v, rfl, k2, ht2⟩
      have lr : (rgl 0 (ps.length : Int).toNat).length = ps.length := by rw [rgl_len]; omega
      rw [lr] at ht2
      walk_at "rd"
      exact k H2 t k2 ht2
def sp_MetricTree_radius_of (c : Cl) (K : PySem.W.Frag) : Sp := fun vs H Q _ => ∃ (mt p a l : Addr) (r D' : Int) (D : Nat) (met : Str) (pvt : List Int) (kd : Int) (ws : List V) (its : List Mt), vs = [.ref mt, .ref a, .int kd, .ref l] ∧ MkA c H mt p r D' met ∧ SqT K H a (pvt.map V.int) ∧ pvt.length = D ∧ 0 < D ∧ D ≤ 8 ∧ H l = some (.lst ws) ∧ MtVs K H kd ws its ∧ (∀ it ∈ its, it.p.length = D) ∧ (kd = 3 ∨ kd = 4) ∧
  ∀ H', Kp F0 H H' → Q (.int (rad met pvt kd its)) H'
theorem ok_MetricTree_radius_of (T : Txt K mg c) : GM P w K mg base CX0 2 c.MetricTree "radius_of" (sp_MetricTree_radius_of c K) := by
  obtain ⟨f, fd, F, gf, gi⟩ := T.f_MetricTree_radius_of
  obtain ⟨_, mg_INNER⟩ := T.m_INNER
  have tc_MetricTree := T.cl_MetricTree; have tn_MetricTree_pager := T.n_MetricTree_pager; have tn_MetricTree_root := T.n_MetricTree_root; have tn_MetricTree_dimensions := T.n_MetricTree_dimensions; have tn_MetricTree_metric := T.n_MetricTree_metric
  refine ⟨f, fd, ["self", "pivot", "kind", "items"], F.ok sc_MetricTree_radius_of ?_ (fun cdv A outer s0 H vs Q E hr h => ?_), ⟨gf, gi, F.kp⟩, (F.binds (ps := ["self", "pivot", "kind", "items"]) fun _ _ _ _ _ _ us hl => match us, hl with | [_, _, _, _], _ => rfl)⟩
  · rintro vs H Q E ⟨_, _, _, _, _, _, _, _, _, _, _, _, rfl, _⟩
    rfl
  · obtain ⟨mt, p, a, l, r, D', D, met, pvt, kd, ws, its, rfl, hk, ha, lpv, D0, D8, hl, hv, hD, hkd, k⟩ := h
    obtain ⟨dx, ho⟩ := hk.o
    have lw := hv.length
    refine ⟨_, (pss_cons (ps_set (i := 4) sc_MetricTree_radius_of.nd rfl (Or.inl rfl) pe_int)
      (pss_cons (ps_for PassesOwn.never rfl (pi_listK rfl (pv 3)) (pg_name (i := 5) sc_MetricTree_radius_of.nd rfl (Or.inl rfl)) (pss_cons (ps_set (i := 6) sc_MetricTree_radius_of.nd rfl (Or.inl rfl) (pe_g (ok_distance T) (hr.mono (by decide)) pass0S (pa_cons (pe_fldK rfl (pv 0)) (pa_cons (pv 1) (pa_cons (pe_gm T.cl_MetricTree (ok_MetricTree_point_of T) (pv 0) (hr.mono (by decide)) pass0S (pa_cons (pv 2) (pa_cons (pv 5) pa_nil))) pa_nil)))))
      (C8.pss_cut (ps_if (pt_cmpR op_eq (pv 2) (pe_glob (v := .int 4) rfl mg_INNER ⟨_, rfl⟩) (nomark _)) (pss_one (ps_aug (i := 6) sc_MetricTree_radius_of.nd rfl (Or.inl rfl) (pe_ix (r := rIxT K) ix_tup (pv 5) pe_int (fun _ _ => rfl)) ip_add)) pss_nil)
      (pss_one (ps_set (i := 4) sc_MetricTree_radius_of.nd rfl (Or.inl rfl) (pe_callB (c_max2 rfl) (by rfl) T.z_max (by decide +kernel) (pa_cons (pv 4) (pa_cons (pv 6) pa_nil))))))))
      (pss_one (ps_ret (pv 4))))), ?_⟩
    walk_at "cx"
    walk_at "rd"
    refine wfor (Wk.list (xs := ws)) (fun i σ H' => ∃ u v, σ = [some (.ref mt), some (.ref a), some (.int kd), some (.ref l), some (.int (rad met pvt kd (its.take i))), u, v] ∧ Kp F0 H H')
      ⟨none, none, rfl, Kp.refl _⟩ (fun i σ H' ⟨_, _, _, kk⟩ => SqL.of (kk.get hl id)) ?_ ?_
    · rintro i x σ H2 ex ⟨u, v, rfl, k2⟩
      obtain ⟨it, ei, hit⟩ := pgt hv ex
      have hit2 := hit.kp k2
      have ho2 := k2.get ho id
      have li := hD it (List.mem_of_getElem? ei)
      have tk : rad met pvt kd (its.take (i + 1)) = max (rad met pvt kd (its.take i)) (rch met pvt kd it) := by
        rw [List.take_succ, ei]
        unfold rad
        rw [List.foldl_append]; rfl
      rw [tk]
      generalize rad met pvt kd (its.take i) = rr
      walk_at "rd"
      obtain ⟨t, q, rfl, ht, hq⟩ := hit2
      refine ⟨mt, t, q, kd, it, rfl, ht, hkd, ?_⟩
      walk_at "rd"
      refine ⟨met, a, q, pvt, it.p, rfl, k2.sqT ha, hq, by omega, by omega, by omega, fun H3 k3 => ?_⟩
      have ht3 := k3.sqT ht
      walk_at "rd"
      rcases hkd with rfl | rfl
      · rw [show rch met pvt 3 it = dist met pvt it.p by unfold rch; rw [if_neg (by decide), Int.add_zero]]
        refine x_cutN ?_
        walk_at "rd"
        rw [decide_eq_false (by decide)]
        walk_at "rd"
        try refine x_max2 ?_
        exact ⟨_, _, rfl, k2.trans k3 fun _ z => z.elim⟩
      · rw [show rch met pvt 4 it = dist met pvt it.p + it.x by unfold rch; rw [if_pos rfl]]
        refine x_cutN ?_
        walk_at "rd"
        rw [decide_eq_true rfl]
        walk_at "rd"
        refine x_augv rfl ?_
        walk_at "rd"
        refine x_ipI ?_
        walk_at "rd"
        try refine x_max2 ?_
        exact ⟨_, _, rfl, k2.trans k3 fun _ z => z.elim⟩
    · rintro σ H2 ⟨u, v, rfl, k2⟩
      rw [lw, List.take_length]
      walk_at "rd"
      exact k H2 k2
def F2 (a b : Addr) : Addr → Prop := fun x => x = a ∨ x = b
def sp_MetricTree_halves (c : Cl) (K : PySem.W.Frag) : Sp := fun vs H Q _ => ∃ (mt p l : Addr) (r D' : Int) (D : Nat) (met : Str) (kd : Int) (ws : List V) (its : List Mt), vs = [.ref mt, .int kd, .ref l] ∧ MkA c H mt p r D' met ∧ 0 < D ∧ D ≤ 8 ∧ H l = some (.lst ws) ∧ MtVs K H kd ws its ∧ (∀ it ∈ its, it.p.length = D) ∧ (kd = 3 ∨ kd = 4) ∧ 2 ≤ its.length ∧ its.length ≤ 1000 ∧
  ∀ H' t a b l1 l2 ws1 ws2, Kp F0 H H' → H' t = some (.tup [.ref a, .ref l1, .ref b, .ref l2]) → SqT K H' a ((pv1 met its).map V.int) → SqT K H' b ((pv2 met its).map V.int) → H l1 = none → H l2 = none → l1 ≠ l2 → H' l1 = some (.lst ws1) → H' l2 = some (.lst ws2) → MtVs K H' kd ws1 (hF met its) → MtVs K H' kd ws2 (hS met its) → Q (.ref t) H'
theorem ok_MetricTree_halves (T : Txt K mg c) : GM P w K mg base CX0 3 c.MetricTree "halves" (sp_MetricTree_halves c K) := by
  obtain ⟨f, fd, F, gf, gi⟩ := T.f_MetricTree_halves
  have tc_MetricTree := T.cl_MetricTree; have tn_MetricTree_pager := T.n_MetricTree_pager; have tn_MetricTree_root := T.n_MetricTree_root; have tn_MetricTree_dimensions := T.n_MetricTree_dimensions; have tn_MetricTree_metric := T.n_MetricTree_metric
  refine ⟨f, fd, ["self", "kind", "items"], F.ok sc_MetricTree_halves ?_ (fun cdv A outer s0 H vs Q E hr h => ?_), ⟨gf, gi, F.kp⟩, (F.binds (ps := ["self", "kind", "items"]) fun _ _ _ _ _ _ us hl => match us, hl with | [_, _, _], _ => rfl)⟩
  · rintro vs H Q E ⟨_, _, _, _, _, _, _, _, _, _, rfl, _⟩
    rfl
  · obtain ⟨mt, p, l, r, D', D, met, kd, ws, its, rfl, hk, D0, D8, hl, hv, hD, hkd, n2, n3, k⟩ := h
    obtain ⟨dx, ho⟩ := hk.o
    have lw := hv.length
    have hDp : ∀ q ∈ its.map Mt.p, q.length = D := fun q hq => by
      obtain ⟨it, hi, rfl⟩ := List.mem_map.mp hq
      exact hD it hi
    have lps : (its.map Mt.p).length = its.length := List.length_map _
    refine ⟨_, (pss_cons (ps_setLc (i := 3) (own := [("item", 11)]) (g := (gName 11)) (tt := tYes) rfl sc_MetricTree_halves.nd rfl rfl (sw_true rfl rfl rfl (by decide +kernel)) (pi_listK rfl (pv 2)) (blkOk_by (N := ["self", "kind", "items", "points", "i", "j", "first", "second", "k", "near", "far", "item"]) (sc := defScope s_MetricTree_halves) (by decide +kernel)) (fun _ _ _ _ _ => (pg_name (i := 11) sc_MetricTree_halves.nd rfl (Or.inl rfl))) (fun _ _ _ _ _ => pts_nil) (fun _ _ _ _ _ => (pe_gm T.cl_MetricTree (ok_MetricTree_point_of T) (pv 0) (hr.mono (by decide)) pass0S (pa_cons (pv 1) (pa_cons (pv 11) pa_nil)))))
      (pss_cons (ps_asg (pe_g (ok_pair_of_pivots T) (hr.mono (by decide)) pass0S (pa_cons (pv 3) (pa_cons (pe_fldK rfl (pv 0)) pa_nil))) (pg_kT rfl (pg_tup (n := 2) rfl (pgs_cons (pg_name (i := 4) sc_MetricTree_halves.nd rfl (Or.inl rfl)) (pgs_cons (pg_name (i := 5) sc_MetricTree_halves.nd rfl (Or.inl rfl)) pgs_nil)))))
      (pss_cons (ps_set (i := 6) sc_MetricTree_halves.nd rfl (Or.inl rfl) (pe_lst pa_nil))
      (pss_cons (ps_set (i := 7) sc_MetricTree_halves.nd rfl (Or.inl rfl) (pe_lst pa_nil))
      (pss_cons (ps_for PassesOwn.never rfl (pi_range1 (by rfl) T.z_range (pa_cons (pe_callB (r := rLenQ K) c_len (by rfl) T.z_len PySem.boot_len (pa_cons (pv 2) pa_nil)) pa_nil)) (pg_name (i := 8) sc_MetricTree_halves.nd rfl (Or.inl rfl)) (pss_cons (ps_set (i := 9) sc_MetricTree_halves.nd rfl (Or.inl rfl) (pe_g (ok_distance T) (hr.mono (by decide)) pass0S (pa_cons (pe_fldK rfl (pv 0)) (pa_cons (pe_ix (r := rIxL K) ix_list (pv 3) (pv 4) (fun _ _ => rfl)) (pa_cons (pe_ix (r := rIxL K) ix_list (pv 3) (pv 8) (fun _ _ => rfl)) pa_nil)))))
      (pss_cons (ps_set (i := 10) sc_MetricTree_halves.nd rfl (Or.inl rfl) (pe_g (ok_distance T) (hr.mono (by decide)) pass0S (pa_cons (pe_fldK rfl (pv 0)) (pa_cons (pe_ix (r := rIxL K) ix_list (pv 3) (pv 5) (fun _ _ => rfl)) (pa_cons (pe_ix (r := rIxL K) ix_list (pv 3) (pv 8) (fun _ _ => rfl)) pa_nil)))))
      (pss_one (ps_if (PW.pt (pw_or (pt_cmpR op_eq (pv 8) (pv 5) (nomark _)) (pw_or1 (pt_cmpR op_lt (pv 10) (pv 9) (nomark _))))) (pss_one (ps_expr (pe_kBM rfl (pe_bm PySem.F.plainAttrs_list PySem.F.slot_list_append PySem.F.type_list_append mt_append (pv 7) (pa_cons (pe_ix (r := rIxL K) ix_list (pv 2) (pv 8) (fun _ _ => rfl)) pa_nil))))) (pss_one (ps_expr (pe_kBM rfl (pe_bm PySem.F.plainAttrs_list PySem.F.slot_list_append PySem.F.type_list_append mt_append (pv 6) (pa_cons (pe_ix (r := rIxL K) ix_list (pv 2) (pv 8) (fun _ _ => rfl)) pa_nil))))))))))
      (pss_one (ps_ret (pe_tup (pa_cons (pe_ix (r := rIxL K) ix_list (pv 3) (pv 4) (fun _ _ => rfl)) (pa_cons (pv 6) (pa_cons (pe_ix (r := rIxL K) ix_list (pv 3) (pv 5) (fun _ _ => rfl)) (pa_cons (pv 7) pa_nil)))))))))))), ?_⟩
    walk_at "cx"
    walk_at "rd"
    refine wlc (Wk.list (xs := ws)) F0 (fun _ => True) (fun i acc => Paired (PtV K H) acc ((its.take i).map Mt.p)) (fun b z => z.elim) (by omega) (fun H' _ s => SqL.of (s.get hl id)) .nil trivial (fun _ _ _ _ _ _ => trivial) (fun i x acc H' R R0 ex pv _ kp hR hR0 => ?_) (fun z H1 acc hz hz1 pv _ k1 => ?_)
    · obtain ⟨it, ei, hit⟩ := pgt hv ex
      walk_at "rd"
      refine ⟨rfl, ?_⟩
      walk_at "rd"
      obtain ⟨t, qq, rfl, ht, hqq⟩ := id hit
      refine ⟨mt, t, qq, kd, it, rfl, kp.sqT ht, hkd, ?_⟩
      refine hR _ H' (Kp.refl _) trivial ?_
      rw [List.take_succ, ei, List.map_append]
      exact pr_app (pv.mono fun _ _ z => z) (.cons ⟨qq, rfl, hqq⟩ .nil)
    · rw [lw, List.take_length] at pv
      have ho1 := k1.get ho id
      have hl1 := k1.get hl id
      have pv1' : Paired (PtV K H1) acc (its.map Mt.p) := pv.mono fun _ _ q => q.kp k1
      have B := piv_bn (m := met) (ps := its.map Mt.p) (by omega)
      walk_at "rd"
      refine ⟨z, met, acc, its.map Mt.p, D, rfl, hz1, pv1', hDp, D0, by omega, by omega, by omega, fun H2 t2 k2 ht2 => ?_⟩
      have hz2 := k2.get hz1 id
      have ho2 := k2.get ho1 id
      have pv2' : Paired (PtV K H2) acc (its.map Mt.p) := pv1'.mono fun _ _ q => q.kp k2
      obtain ⟨qi, gi, si, li⟩ := ptv_at pv2' hDp (i := (piv met (its.map Mt.p)).1) (by have := B.1; have := B.2; omega)
      obtain ⟨qj, gj, sj, lj⟩ := ptv_at pv2' hDp B.2
      walk_at "rd"
      refine x_newL fun l1 H3 hl1' k3 e3 => ?_
      walk_at "rd"
      refine x_newL fun l2 H4 hl2' k4 e4 => ?_
      have e34 := k4.get e3 id
      have n12 : l1 ≠ l2 := ne_of_none e3 hl2'
      have k24 : Kp F0 H2 H4 := k3.trans k4 fun _ z => z.elim
      have k04 : Kp F0 H H4 := ((k1.trans k2 fun _ z => z.elim).trans k24 fun _ z => z.elim)
      have hl4 := k04.get hl id
      have f1 : H l1 = none := k1.free (k2.free hl1' id) id
      have f2 : H l2 = none := k1.free (k2.free (k3.free hl2' id) id) id
      walk_at "rd"
      rw [lw]
      refine wfor Wk.rng (fun n σ H' => ∃ ws1 ws2 u8 u9 u10 u11, σ = [some (.ref mt), some (.int kd), some (.ref l), some (.ref z), some (.int ((piv met (its.map Mt.p)).1 : Nat)), some (.int ((piv met (its.map Mt.p)).2 : Nat)), some (.ref l1), some (.ref l2), u8, u9, u10, u11] ∧ H' l1 = some (.lst ws1) ∧ H' l2 = some (.lst ws2) ∧ ws1.length ≤ n ∧ ws2.length ≤ n ∧
          MtVs K H' kd ws1 (hP (fun k => !secB met (its.map Mt.p) (piv met (its.map Mt.p)) k) (its.take n)) ∧ MtVs K H' kd ws2 (hP (secB met (its.map Mt.p) (piv met (its.map Mt.p))) (its.take n)) ∧ Kp (F2 l1 l2) H4 H')
        ⟨[], [], none, none, none, none, rfl, e34, e4, Nat.le_refl _, Nat.le_refl _, .nil, .nil, Kp.refl _⟩ (fun _ _ _ _ => trivial) ?_ ?_
      · rintro n x σ H5 ex ⟨ws1, ws2, u8, u9, u10, u11, rfl, e1, e2, lw1, lw2, m1, m2, k5⟩
        obtain ⟨hn, rfl⟩ := rgl_at ex
        have hn' : n < its.length := by omega
        have nF : ∀ {x : Addr} {o : HO}, H4 x = some o → x ≠ l1 → x ≠ l2 → ¬ F2 l1 l2 x := fun _ a b q => q.elim a b
        have nz1 : z ≠ l1 := ne_of_none hz2 hl1'
        have nz2 : z ≠ l2 := ne_of_none (k3.get hz2 id) hl2'
        have hz5 := k5.get (k24.get hz2 id) (fun q => q.elim nz1 nz2)
        have ho4 := k24.get ho2 id
        have ho5 := k5.get ho4 (fun q => q.elim (ne_of_none ho2 hl1') (ne_of_none (k3.get ho2 id) hl2'))
        have hl5 := k5.get hl4 (fun q => q.elim (ne_of_none hl f1) (ne_of_none hl f2))
        have k25 : Kp (F2 l1 l2) H2 H5 := (k24.mono fun _ q => q.elim).trans k5 fun _ q => .inl q
        have k05 : Kp (F2 l1 l2) H H5 := (k04.mono fun _ q => q.elim).trans k5 fun _ q => .inl q
        obtain ⟨qn, gn, sn, ln⟩ := ptv_at (pv2'.mono fun _ _ q => q.kp k25) hDp (i := n) (by omega)
        have si5 := k25.sqT si
        have sj5 := k25.sqT sj
        obtain ⟨it, ei⟩ : ∃ it, its[n]? = some it := ⟨_, List.getElem?_eq_getElem hn'⟩
        obtain ⟨v, ev, hit⟩ := pgetr hv ei
        have hit5 := hit.kp k05
        have tk : its.take (n + 1) = its.take n ++ [it] := by rw [List.take_succ, ei]; rfl
        have lt : (its.take n).length = n := by rw [List.length_take]; omega
        rw [tk, hP_snoc, hP_snoc, lt]
        walk_at "rd"
        refine x_ixL (v := .ref qi) (SqL.of hz5) (atI_at _ rfl gi) ?_
        walk_at "rd"
        refine x_ixL (v := .ref qn) (SqL.of hz5) (atI_at n (by omega) gn) ?_
        walk_at "rd"
        refine ⟨met, qi, qn, _, _, rfl, si5, sn, by omega, by omega, by omega, fun H6 k6 => ?_⟩
        have hz6 := k6.get hz5 id
        have ho6 := k6.get ho5 id
        walk_at "rd"
        refine x_ixL (v := .ref qj) (SqL.of hz6) (atI_at _ rfl gj) ?_
        walk_at "rd"
        refine x_ixL (v := .ref qn) (SqL.of hz6) (atI_at n (by omega) gn) ?_
        walk_at "rd"
        refine ⟨met, qj, qn, _, _, rfl, k6.sqT sj5, k6.sqT sn, by omega, by omega, by omega, fun H7 k7 => ?_⟩
        have k57 : Kp F0 H5 H7 := k6.trans k7 fun _ q => q.elim
        have hl7 := k57.get hl5 id
        have e17 := k57.get e1 id
        have e27 := k57.get e2 id
        have mS : ∀ {F : Addr → Prop} {H8 : Hp}, secB met (its.map Mt.p) (piv met (its.map Mt.p)) n = true → Kp F H7 H8 → MtVs K H8 kd ws1 (hP (fun k => !secB met (its.map Mt.p) (piv met (its.map Mt.p)) k) (its.take n) ++ if (!secB met (its.map Mt.p) (piv met (its.map Mt.p)) n) = true then [it] else []) ∧ MtVs K H8 kd (ws2 ++ [v]) (hP (secB met (its.map Mt.p) (piv met (its.map Mt.p))) (its.take n) ++ if secB met (its.map Mt.p) (piv met (its.map Mt.p)) n = true then [it] else []) := fun {F H8} sb k8 => by
          rw [sb, if_neg (by decide), if_pos rfl, List.append_nil]
          exact ⟨m1.mono fun _ _ q => (q.kp k57).kp k8, pr_app (m2.mono fun _ _ q => (q.kp k57).kp k8) (.cons ((hit5.kp k57).kp k8) .nil)⟩
        have mF : ∀ {F : Addr → Prop} {H8 : Hp}, secB met (its.map Mt.p) (piv met (its.map Mt.p)) n = false → Kp F H7 H8 → MtVs K H8 kd (ws1 ++ [v]) (hP (fun k => !secB met (its.map Mt.p) (piv met (its.map Mt.p)) k) (its.take n) ++ if (!secB met (its.map Mt.p) (piv met (its.map Mt.p)) n) = true then [it] else []) ∧ MtVs K H8 kd ws2 (hP (secB met (its.map Mt.p) (piv met (its.map Mt.p))) (its.take n) ++ if secB met (its.map Mt.p) (piv met (its.map Mt.p)) n = true then [it] else []) := fun {F H8} sb k8 => by
          rw [sb, if_pos (by decide), if_neg (by decide), List.append_nil]
          exact ⟨pr_app (m1.mono fun _ _ q => (q.kp k57).kp k8) (.cons ((hit5.kp k57).kp k8) .nil), m2.mono fun _ _ q => (q.kp k57).kp k8⟩
        have k47 : Kp (F2 l1 l2) H4 H7 := k5.trans k57 fun _ q => q.elim
        by_cases c1 : n = (piv met (its.map Mt.p)).2
        · have sb : secB met (its.map Mt.p) (piv met (its.map Mt.p)) n = true := by unfold secB; rw [decide_eq_true c1]; rfl
          walk_at "rd"
          rw [decide_eq_true (show (0 : Int) + (n : Int) = _ by omega)]
          walk_at "rd"
          refine x_ixL (v := v) (SqL.of hl7) (atI_at n (by omega) ev) ?_
          walk_at "rd"
          refine x_app e27 (by omega) fun H8 e8 k8 => ?_
          exact ⟨ws1, ws2 ++ [v], _, _, _, _, rfl, k8.get e17 n12, e8, by omega, by rw [List.length_append, List.length_singleton]; omega, (mS sb k8).1, (mS sb k8).2, k47.trans k8 fun _ q => .inl (.inr q)⟩
        · walk_at "rd"
          rw [decide_eq_false (show ¬ (0 : Int) + (n : Int) = _ by omega)]
          walk_at "rd"
          refine ite_dec (fun e => ?_) fun e => ?_
          · have sb : secB met (its.map Mt.p) (piv met (its.map Mt.p)) n = true := by unfold secB dij; rw [decide_eq_true e, Bool.or_true]
            walk_at "rd"
            refine x_ixL (v := v) (SqL.of hl7) (atI_at n (by omega) ev) ?_
            walk_at "rd"
            refine x_app e27 (by omega) fun H8 e8 k8 => ?_
            exact ⟨ws1, ws2 ++ [v], _, _, _, _, rfl, k8.get e17 n12, e8, by omega, by rw [List.length_append, List.length_singleton]; omega, (mS sb k8).1, (mS sb k8).2, k47.trans k8 fun _ q => .inl (.inr q)⟩
          · have sb : secB met (its.map Mt.p) (piv met (its.map Mt.p)) n = false := by unfold secB dij; rw [decide_eq_false c1, decide_eq_false e]; rfl
            walk_at "rd"
            refine x_ixL (v := v) (SqL.of hl7) (atI_at n (by omega) ev) ?_
            walk_at "rd"
            refine x_app e17 (by omega) fun H8 e8 k8 => ?_
            exact ⟨ws1 ++ [v], ws2, _, _, _, _, rfl, e8, k8.get e27 n12.symm, by rw [List.length_append, List.length_singleton]; omega, by omega, (mF sb k8).1, (mF sb k8).2, k47.trans k8 fun _ q => .inl (.inl q)⟩
      · rintro σ H5 ⟨ws1, ws2, u8, u9, u10, u11, rfl, e1, e2, lw1, lw2, m1, m2, k5⟩
        have lr : (rgl 0 (its.length : Int).toNat).length = its.length := by rw [rgl_len]; omega
        rw [lr, List.take_length] at m1 m2
        have nz1 : z ≠ l1 := ne_of_none hz2 hl1'
        have nz2 : z ≠ l2 := ne_of_none (k3.get hz2 id) hl2'
        have hz5 := k5.get (k24.get hz2 id) (fun q => q.elim nz1 nz2)
        have k25 : Kp (F2 l1 l2) H2 H5 := (k24.mono fun _ q => q.elim).trans k5 fun _ q => .inl q
        have k05 : Kp F0 H H5 := fun x o hx _ => k5.get (k04.get hx id) (fun q => q.elim (ne_of_none hx f1) (ne_of_none hx f2))
        walk_at "rd"
        refine x_ixL (v := .ref qi) (SqL.of hz5) (atI_at _ rfl gi) ?_
        walk_at "rd"
        refine x_ixL (v := .ref qj) (SqL.of hz5) (atI_at _ rfl gj) ?_
        walk_at "rd"
        refine x_newT fun t6 H6 ht6 k6 e6 => ?_
        exact k H6 t6 qi qj l1 l2 ws1 ws2 (k05.trans k6 fun _ q => q.elim) e6 (k6.sqT (k25.sqT si)) (k6.sqT (k25.sqT sj)) f1 f2 n12 (k6.get e1 id) (k6.get e2 id) (m1.mono fun _ _ q => q.kp k6) (m2.mono fun _ _ q => q.kp k6)
end
theorem pd_len (x : PgS) : (palloc x).1.dir.length ≤ x.dir.length + 2 := by
  have l : ∀ (y : PgS) n ds, (pwr n ds y).dir.length ≤ y.dir.length + 1 := fun y n ds => aput_len _ _ _
  unfold palloc
  split
  · refine Nat.le_trans (l _ _ _) ?_
    have := l x 0 (spl (gpg x 0) 6 (fld x 6 + 1))
    show (pwr 0 (spl (gpg x 0) 6 (fld x 6 + 1)) x).dir.length + 1 ≤ _
    omega
  · refine Nat.le_trans (l _ _ _) ?_
    have := l x 0 (spl (gpg x 0) 7 (rn ((gpg x (fld x 7)).take 4)))
    show (pwr 0 (spl (gpg x 0) 7 (rn ((gpg x (fld x 7)).take 4))) x).dir.length + 1 ≤ _
    omega
/-! ### saving -/
theorem pv_at {m : Str} {its : List Mt} (h : 2 ≤ its.length) : ∃ a b, its[(piv m (its.map Mt.p)).1]? = some a ∧ its[(piv m (its.map Mt.p)).2]? = some b ∧ a.p = pv1 m its ∧ b.p = pv2 m its ∧ (piv m (its.map Mt.p)).1 < (piv m (its.map Mt.p)).2 := by
  have B := piv_bn (m := m) (ps := its.map Mt.p) (by rw [List.length_map]; exact h)
  unfold Bn at B
  unfold pv1 pv2
  generalize piv m (its.map Mt.p) = q at B
  rw [List.length_map] at B
  have z : ∀ {i : Nat} (hi : i < its.length), its[i].p = (its.map Mt.p).getD i [] := fun {i} hi => by
    rw [List.getD_eq_getElem?_getD, List.getElem?_map, List.getElem?_eq_getElem hi]; rfl
  exact ⟨its[q.1], its[q.2], List.getElem?_eq_getElem _, List.getElem?_eq_getElem _, z (by omega), z B.2, B.1⟩
theorem halves_ne (m : Str) {its : List Mt} (h : 2 ≤ its.length) : (∃ a, a ∈ hF m its ∧ a.p = pv1 m its) ∧ ∃ b, b ∈ hS m its ∧ b.p = pv2 m its := by
  obtain ⟨a, b, ea, eb, pa, pb, lt⟩ := pv_at (m := m) h
  refine ⟨⟨a, hP_get ea ?_, pa⟩, b, hP_get eb ?_, pb⟩
  · unfold secB
    have : dij m (its.map Mt.p) (piv m (its.map Mt.p)).1 (piv m (its.map Mt.p)).1 = 0 := dist_self _ _
    rw [this]
    have nn : 0 ≤ dij m (its.map Mt.p) (piv m (its.map Mt.p)).2 (piv m (its.map Mt.p)).1 := dist_nn _ _ _
    rw [decide_eq_false (by omega), decide_eq_false (by omega)]; rfl
  · unfold secB
    rw [decide_eq_true rfl]; rfl
theorem halves_len (m : Str) {its : List Mt} (h : 2 ≤ its.length) : (hF m its).length + (hS m its).length = its.length ∧ 0 < (hF m its).length ∧ 0 < (hS m its).length := by
  obtain ⟨⟨a, ha, _⟩, b, hb, _⟩ := halves_ne m h
  exact ⟨hP_len _ _, List.length_pos_of_mem ha, List.length_pos_of_mem hb⟩
theorem pv_len {m : Str} {its : List Mt} {D : Nat} (h : 2 ≤ its.length) (hD : ∀ it ∈ its, it.p.length = D) : (pv1 m its).length = D ∧ (pv2 m its).length = D := by
  obtain ⟨a, b, ea, eb, pa, pb, _⟩ := pv_at (m := m) h
  rw [← pa, ← pb]
  exact ⟨hD a (List.mem_of_getElem? ea), hD b (List.mem_of_getElem? eb)⟩
structure SvM (D : Nat) (kd : Int) (its : List Mt) (s : PgS) : Prop where
  l : ∀ it ∈ its, it.p.length = D
  kk : kd = 3 ∨ kd = 4
  lz : its.length ≤ 10
  ds : s.dir.length ≤ 900000
  z0 : (gpg s 0).length = 256
def twoM (m : Str) (kd : Int) (its : List Mt) (n a : Int) : List Mt := [⟨pv1 m its, rad m (pv1 m its) kd (hF m its), n⟩, ⟨pv2 m its, rad m (pv2 m its) kd (hS m its), a⟩]
/-- a save, step by step -/
inductive Sm (D : Nat) (m : Str) : List (Int × Nat) → Int → Int → List Mt → PgS → PgS → Prop
  | fit {path : List (Int × Nat)} {n kd : Int} {its : List Mt} {s : PgS} : SvM D kd its s → its.length ≤ 9 → Sm D m path n kd its s (pwr n (pad (encM kd its)) s)
  | root {n kd : Int} {its : List Mt} {s s1 s2 : PgS} {a b : Int} : SvM D kd its s → 9 < its.length →
      a = (palloc s).2 → s1 = pwr a (pad (encM kd (hS m its))) (palloc s).1 → (gpg s1 0).length = 256 → b = (palloc s1).2 → s2 = pwr b (pad (encM kd (hF m its))) (palloc s1).1 → (∀ x ∈ twoM m kd its b a, MtOk D x) →
      Sm D m [] n kd its s (pwr n (pad (encM 4 (twoM m kd its b a))) s2)
  | up {path : List (Int × Nat)} {pl : Nat} {n kd par : Int} {its cs : List Mt} {s s1 s2 s' : PgS} {a : Int} : SvM D kd its s → 9 < its.length →
      a = (palloc s).2 → s1 = pwr a (pad (encM kd (hS m its))) (palloc s).1 → s2 = pwr n (pad (encM kd (hF m its))) s1 → DecM D (gpg s2 par) 4 cs → pl < cs.length → (∀ x ∈ twoM m kd its n a, MtOk D x) →
      Sm D m path par 4 (cs.take pl ++ twoM m kd its n a ++ cs.drop (pl + 1)) s2 s' → Sm D m (path ++ [(par, pl)]) n kd its s s'
theorem Sm.si {D : Nat} {m : Str} {path : List (Int × Nat)} {n kd : Int} {its : List Mt} {s s' : PgS} (h : Sm D m path n kd its s s') : SvM D kd its s := by cases h <;> assumption
/-- the world of a metric tree -/
structure MW (c : Cl) (H : Hp) (mt p q : Addr) (r : Int) (D : Nat) (met : Str) (O Od : Addr → Prop) (s : PgS) : Prop where
  ka : MkA c H mt p r D met
  pg : PagAt c H p q O Od s
  nk : ¬ O mt
theorem MW.pure {c : Cl} {H H' : Hp} {mt p q : Addr} {r : Int} {D : Nat} {met : Str} {O Od : Addr → Prop} {s : PgS} (h : MW c H mt p q r D met O Od s) (k : Kp F0 H H') : MW c H' mt p q r D met O Od s := ⟨h.ka.kp k id, h.pg.same k, h.nk⟩
theorem MW.off {c : Cl} {F : Addr → Prop} {H H' : Hp} {mt p q : Addr} {r : Int} {D : Nat} {met : Str} {O Od : Addr → Prop} {s : PgS} (h : MW c H mt p q r D met O Od s) (k : Kp F H H') (n1 : ∀ b, F b → ¬ O b) (n2 : ¬ F mt) : MW c H' mt p q r D met O Od s := ⟨h.ka.kp k n2, h.pg.off k n1, h.nk⟩
theorem MW.pager {c : Cl} {H H' : Hp} {mt p q : Addr} {r : Int} {D : Nat} {met : Str} {O O' Od Od' : Addr → Prop} {s s' : PgS} (h : MW c H mt p q r D met O Od s) (P : PagAt c H' p q O' Od' s') (t : Stp O O' H H') : MW c H' mt p q r D met O' Od' s' := by
  obtain ⟨dx, o⟩ := h.ka.o
  exact ⟨h.ka.kp t.kp h.nk, P, t.kp0 o h.nk⟩
theorem chM_V {K : PySem.W.Frag} {H : Hp} {p : List Int} {x y : Int} {t q : Addr} (h : SqT K H t [.ref q, .int x, .int y]) (hq : SqT K H q (p.map V.int)) : MtV K H 4 (.ref t) ⟨p, x, y⟩ := ⟨t, q, rfl, h, hq⟩
section
variable {P : Program} {w : World} {K : PySem.W.Frag} {mg : Str → Option Value} {base : Heap} {c : Cl}
def sp_saveM (c : Cl) (K : PySem.W.Frag) (d : Nat) : Sp := fun vs H Q _ => ∃ (mt p q pl l : Addr) (r : Int) (D : Nat) (met : Str) (n kd : Int) (path : List (Int × Nat)) (its : List Mt) (pvs ws : List V) (O Od : Addr → Prop) (s s' : PgS), vs = [.ref mt, .ref pl, .int n, .int kd, .ref l] ∧ path.length < d ∧ MW c H mt p q r D met O Od s ∧ H pl = some (.lst pvs) ∧ Paired (PthV K H) pvs path ∧ ¬ O pl ∧ H l = some (.lst ws) ∧ MtVs K H kd ws its ∧ ¬ O l ∧ Sm D met path n kd its s s' ∧ path.length ≤ 1000 ∧ 0 < D ∧ D ≤ 8 ∧
  ∀ H' O', PagAt c H' p q O' Od s' → Stp O O' H H' → Q .non H'
theorem ok_MetricTree_save' (T : Txt K mg c) : ∀ d, GM P w K mg base CX0 (6 + d) c.MetricTree "save" (sp_saveM c K d) := by
  intro d
  induction d with
  | zero =>
    obtain ⟨f, fd, F, gf, gi⟩ := T.f_MetricTree_save
    refine ⟨f, fd, ["self", "path", "number", "kind", "items"], F.ok sc_MetricTree_save ?_ (fun cdv A outer s0 H vs Q E hr h => ?_), ⟨gf, gi, F.kp⟩, (F.binds (ps := ["self", "path", "number", "kind", "items"]) fun _ _ _ _ _ _ us hl => match us, hl with | [_, _, _, _, _], _ => rfl)⟩
    · rintro vs H Q E ⟨_, _, _, _, _, _, _, _, _, _, _, _, _, _, _, _, _, _, rfl, _⟩
      rfl
    · obtain ⟨_, _, _, _, _, _, _, _, _, _, _, _, _, _, _, _, _, _, _, z, _⟩ := h
      exact absurd z (Nat.not_lt_zero _)
  | succ d ih =>
    obtain ⟨f, fd, F, gf, gi⟩ := T.f_MetricTree_save
    obtain ⟨_, mg_INNER⟩ := T.m_INNER
    obtain ⟨_, mg_MOST_ITEMS⟩ := T.m_MOST_ITEMS
    have tc_MetricTree := T.cl_MetricTree; have tn_MetricTree_pager := T.n_MetricTree_pager; have tn_MetricTree_root := T.n_MetricTree_root; have tn_MetricTree_dimensions := T.n_MetricTree_dimensions; have tn_MetricTree_metric := T.n_MetricTree_metric
    have tc_Pager := T.cl_Pager; have tn_Pager_device := T.n_Pager_device; have tn_Pager_committed := T.n_Pager_committed; have tn_Pager_dirty := T.n_Pager_dirty
    refine ⟨f, fd, ["self", "path", "number", "kind", "items"], F.ok sc_MetricTree_save ?_ (fun cdv A outer s0 H vs Q E hr h => ?_), ⟨gf, gi, F.kp⟩, (F.binds (ps := ["self", "path", "number", "kind", "items"]) fun _ _ _ _ _ _ us hl => match us, hl with | [_, _, _, _, _], _ => rfl)⟩
    · rintro vs H Q E ⟨_, _, _, _, _, _, _, _, _, _, _, _, _, _, _, _, _, _, rfl, _⟩
      rfl
    · obtain ⟨mt, p, q, pl, l, r, D, met, n, kd, path, its, pvs, ws, O, Od, s, s', rfl, ld, W, hpl, hpv, npl, hl, hv, nl, sv, lp, D0, hD, k⟩ := h
      refine ⟨_, (pss_cons (ps_if (pt_cmpR op_le (pe_callB (r := rLenQ K) c_len (by rfl) T.z_len PySem.boot_len (pa_cons (pv 4) pa_nil)) (pe_glob (v := .int 9) rfl mg_MOST_ITEMS ⟨_, rfl⟩) (nomark _)) (pss_cons (ps_expr (pe_gm T.cl_MetricTree (ok_MetricTree_store T) (pv 0) (hr.mono (Nat.le_trans (by decide) (Nat.le_add_right 6 d))) pass0S (pa_cons (pv 2) (pa_cons (pv 3) (pa_cons (pv 4) pa_nil)))))
      (pss_one ps_retN)) pss_nil)
      (pss_cons (ps_asg (pe_gm T.cl_MetricTree (ok_MetricTree_halves T) (pv 0) (hr.mono (Nat.le_trans (by decide) (Nat.le_add_right 6 d))) pass0S (pa_cons (pv 3) (pa_cons (pv 4) pa_nil))) (pg_kT rfl (pg_tup (n := 4) rfl (pgs_cons (pg_name (i := 5) sc_MetricTree_save.nd rfl (Or.inl rfl)) (pgs_cons (pg_name (i := 6) sc_MetricTree_save.nd rfl (Or.inl rfl)) (pgs_cons (pg_name (i := 7) sc_MetricTree_save.nd rfl (Or.inl rfl)) (pgs_cons (pg_name (i := 8) sc_MetricTree_save.nd rfl (Or.inl rfl)) pgs_nil)))))))
      (pss_cons (ps_set (i := 9) sc_MetricTree_save.nd rfl (Or.inl rfl) (pe_gm0 T.cl_Pager (ok_Pager_allocate T) (pe_fldK rfl (pv 0)) (hr.mono (Nat.le_trans (by decide) (Nat.le_add_right 6 d))) pass0S))
      (pss_cons (ps_expr (pe_gm T.cl_MetricTree (ok_MetricTree_store T) (pv 0) (hr.mono (Nat.le_trans (by decide) (Nat.le_add_right 6 d))) pass0S (pa_cons (pv 9) (pa_cons (pv 3) (pa_cons (pv 8) pa_nil)))))
      (pss_cons (ps_set (i := 10) sc_MetricTree_save.nd rfl (Or.inl rfl) (pv 2))
      (C8.pss_cut (ps_if (pt_cmpR op_eq (pe_callB (r := rLenQ K) c_len (by rfl) T.z_len PySem.boot_len (pa_cons (pv 1) pa_nil)) pe_int (nomark _)) (pss_one (ps_set (i := 10) sc_MetricTree_save.nd rfl (Or.inl rfl) (pe_gm0 T.cl_Pager (ok_Pager_allocate T) (pe_fldK rfl (pv 0)) (hr.mono (Nat.le_trans (by decide) (Nat.le_add_right 6 d))) pass0S))) pss_nil)
      (pss_cons (ps_expr (pe_gm T.cl_MetricTree (ok_MetricTree_store T) (pv 0) (hr.mono (Nat.le_trans (by decide) (Nat.le_add_right 6 d))) pass0S (pa_cons (pv 10) (pa_cons (pv 3) (pa_cons (pv 6) pa_nil)))))
      (pss_cons (ps_set (i := 11) sc_MetricTree_save.nd rfl (Or.inl rfl) (pe_lst (pa_cons (pe_tup (pa_cons (pv 5) (pa_cons (pe_gm T.cl_MetricTree (ok_MetricTree_radius_of T) (pv 0) (hr.mono (Nat.le_trans (by decide) (Nat.le_add_right 6 d))) pass0S (pa_cons (pv 5) (pa_cons (pv 3) (pa_cons (pv 6) pa_nil)))) (pa_cons (pv 10) pa_nil)))) (pa_cons (pe_tup (pa_cons (pv 7) (pa_cons (pe_gm T.cl_MetricTree (ok_MetricTree_radius_of T) (pv 0) (hr.mono (Nat.le_trans (by decide) (Nat.le_add_right 6 d))) pass0S (pa_cons (pv 7) (pa_cons (pv 3) (pa_cons (pv 8) pa_nil)))) (pa_cons (pv 9) pa_nil)))) pa_nil))))
      (pss_cons (ps_if (pt_cmpR op_eq (pe_callB (r := rLenQ K) c_len (by rfl) T.z_len PySem.boot_len (pa_cons (pv 1) pa_nil)) pe_int (nomark _)) (pss_cons (ps_expr (pe_gm T.cl_MetricTree (ok_MetricTree_store T) (pv 0) (hr.mono (Nat.le_trans (by decide) (Nat.le_add_right 6 d))) pass0S (pa_cons (pv 2) (pa_cons (pe_glob (v := .int 4) rfl mg_INNER ⟨_, rfl⟩) (pa_cons (pv 11) pa_nil)))))
      (pss_one ps_retN)) pss_nil)
      (pss_cons (ps_asg (pe_ix (r := rIxL K) ix_list (pv 1) (pe_un un_neg pe_int) (fun _ _ => rfl)) (pg_kT rfl (pg_tup (n := 2) rfl (pgs_cons (pg_name (i := 12) sc_MetricTree_save.nd rfl (Or.inl rfl)) (pgs_cons (pg_name (i := 13) sc_MetricTree_save.nd rfl (Or.inl rfl)) pgs_nil)))))
      (pss_cons (ps_set (i := 4) sc_MetricTree_save.nd rfl (Or.inl rfl) (pe_ix (r := rIxT K) ix_tup (pe_gm T.cl_MetricTree (ok_MetricTree_load T) (pv 0) (hr.mono (Nat.le_trans (by decide) (Nat.le_add_right 6 d))) pass0S (pa_cons (pv 12) pa_nil)) pe_int (fun _ _ => rfl)))
      (pss_one (ps_expr (pe_gm T.cl_MetricTree ih (pv 0) hr pass0S (pa_cons (pe_slice (r := rSlL K) sl_list (pv 1) po_none (po_some (pe_un un_neg pe_int))) (pa_cons (pv 12) (pa_cons (pe_glob (v := .int 4) rfl mg_INNER ⟨_, rfl⟩) (pa_cons (pe_op op_cat (pe_op op_cat (pe_slice (r := rSlL K) sl_list (pv 4) po_none (po_some (pv 13))) (pv 11)) (pe_slice (r := rSlL K) sl_list (pv 4) (po_some (pe_op op_add (pv 13) pe_int)) po_none)) pa_nil)))))))))))))))))), ?_⟩
      have si := sv.si
      obtain ⟨dx, ho⟩ := W.ka.o
      have lz := si.lz
      have lw := hv.length
      have sl := si.l
      have ds := si.ds
      walk_at "cx"
      walk_at "rd"
      rw [lw]
      walk_at "rd"
      refine ite_dec (fun e => ?_) fun e => ?_
      · have e9 : its.length ≤ 9 := by omega
        cases sv with
        | fit _ _ =>
          walk_at "rd"
          refine ⟨mt, p, q, r, D, met, n, kd, l, ws, its, O, Od, s, rfl, W.ka, W.pg, hl, hv, fun it hi => by have := sl it hi; omega, si.kk, e9, by omega, fun H2 O2 P2 t2 => ?_⟩
          walk_at "rd"
          exact k H2 O2 P2 t2
        | root _ t => exact absurd t (by omega)
        | up _ t => exact absurd t (by omega)
      · have e9 : 9 < its.length := by omega
        have hh := halves_len met (its := its) (by omega)
        have hpl' := pv_len (m := met) (its := its) (by omega) sl
        have slF : ∀ it ∈ hF met its, it.p.length = D := fun it hi => sl it (hP_mem hi)
        have slS : ∀ it ∈ hS met its, it.p.length = D := fun it hi => sl it (hP_mem hi)
        walk_at "rd"
        refine ⟨mt, p, l, r, D, D, met, kd, ws, its, rfl, W.ka, D0, hD, hl, hv, sl, si.kk, by omega, by omega, fun H2 t a1 a2 l1 l2 ws1 ws2 k2 e2 ha1 ha2 fr1 fr2 n12 el1 el2 hv1 hv2 => ?_⟩
        have W2 := W.pure k2
        have ho2 := k2.get ho id
        have nl1 := W.pg.fresh fr1
        have nl2 := W.pg.fresh fr2
        have hpl2 := k2.get hpl id
        have hpv2 : Paired (PthV K H2) pvs path := hpv.mono fun _ _ z => z.kp k2
        obtain ⟨⟨dy, b1, b2, y1, y2, DP2⟩, _⟩ := id W2.pg
        have hop2 := DP2.o
        walk_at "rd"
        refine ⟨p, q, O, Od, s, rfl, W2.pg, by omega, si.z0, fun H3 O3 P3 t3 => ?_⟩
        have W3 := W2.pager P3 t3
        have ho3 := t3.kp.get ho2 W.nk
        have el13 := t3.kp.get el1 nl1
        have nl13 := t3.kp0 el1 nl1
        have el23 := t3.kp.get el2 nl2
        have nl23 := t3.kp0 el2 nl2
        have hpl3 := t3.kp.get hpl2 npl
        have npl3 := t3.kp0 hpl2 npl
        have d3 := pd_len s
        walk_at "rd"
        refine ⟨mt, p, q, r, D, met, (palloc s).2, kd, l2, ws2, hS met its, O3, Od, (palloc s).1, rfl, W3.ka, W3.pg, el23, hv2.mono fun _ _ z => z.kp t3.kp, fun it hi => by have := slS it hi; omega, si.kk, by omega, by omega, fun H4 O4 P4 t4 => ?_⟩
        have W4 := W3.pager P4 t4
        have ho4 := t4.kp.get ho3 W3.nk
        have el14 := t4.kp.get el13 nl13
        have nl14 := t4.kp0 el13 nl13
        have el24 := t4.kp.get el23 nl23
        have nl24 := t4.kp0 el23 nl23
        have hpl4 := t4.kp.get hpl3 npl3
        have npl4 := t4.kp0 hpl3 npl3
        have t24 : Stp O O4 H2 H4 := t3.trans t4
        have lpv := hpv.length
        have d4 : (pwr (palloc s).2 (pad (encM kd (hS met its))) (palloc s).1).dir.length ≤ (palloc s).1.dir.length + 1 := aput_len _ _ _
        obtain ⟨⟨dy4, b14, b24, y14, y24, DP4⟩, _⟩ := id W4.pg
        have hop4 := DP4.o
        have t04 : Stp O O4 H H4 := (Stp.pure k2).trans t24
        walk_at "rd"
        cases sv with
        | fit _ nt => exact absurd nt (by omega)
        | root _ _ ea es1 ez eb es2 _ =>
          subst ea es1 eb es2
          refine x_cutN ?_
          walk_at "rd"
          rw [lpv]
          refine ite_dec (fun e => ?_) fun e => absurd (by rfl) e
          walk_at "rd"
          refine ⟨p, q, O4, Od, _, rfl, W4.pg, by omega, ez, fun H5 O5 P5 t5 => ?_⟩
          have W5 := W4.pager P5 t5
          have ho5 := t5.kp.get ho4 W4.nk
          have el15 := t5.kp.get el14 nl14
          have nl15 := t5.kp0 el14 nl14
          have el25 := t5.kp.get el24 nl24
          have nl25 := t5.kp0 el24 nl24
          have hpl5 := t5.kp.get hpl4 npl4
          have npl5 := t5.kp0 hpl4 npl4
          have t25 : Stp O O5 H2 H5 := t24.trans t5
          have d5 := pd_len (pwr (palloc s).2 (pad (encM kd (hS met its))) (palloc s).1)
          walk_at "rd"
          refine ⟨mt, p, q, r, D, met, _, kd, l1, ws1, hF met its, O5, Od, _, rfl, W5.ka, W5.pg, el15, hv1.mono fun _ _ z => z.kp t25.kp, fun it hi => by have := slF it hi; omega, si.kk, by omega, by omega, fun H6 O6 P6 t6 => ?_⟩
          have W6 := W5.pager P6 t6
          have ho6 := t6.kp.get ho5 W5.nk
          have hpl6 := t6.kp.get hpl5 npl5
          have el16 := t6.kp.get el15 nl15
          have el26 := t6.kp.get el25 nl25
          have t26 : Stp O O6 H2 H6 := t25.trans t6
          have hv16 := hv1.mono fun _ _ z => z.kp t26.kp
          have hv26 := hv2.mono fun _ _ z => z.kp t26.kp
          have ha16 := t26.kp.sqT ha1
          have ha26 := t26.kp.sqT ha2
          walk_at "rd"
          refine ⟨mt, p, a1, l1, r, D, D, met, pv1 met its, kd, ws1, hF met its, rfl, W6.ka, ha16, hpl'.1, D0, hD, el16, hv16, slF, si.kk, fun H7 k7 => ?_⟩
          walk_at "rd"
          refine x_newT fun t8 H8 ht8 k8 e8 => ?_
          have k68 : Kp F0 H6 H8 := k7.trans k8 fun _ z => z.elim
          have ho8 := k68.get ho6 id
          walk_at "rd"
          refine ⟨mt, p, a2, l2, r, D, D, met, pv2 met its, kd, ws2, hS met its, rfl, W6.ka.kp k68 id, k68.sqT ha26, hpl'.2, D0, hD, k68.get el26 id, hv26.mono fun _ _ z => z.kp k68, slS, si.kk, fun H9 k9 => ?_⟩
          walk_at "rd"
          refine x_newT fun t10 H10 ht10 k10 e10 => ?_
          walk_at "rd"
          refine x_newL fun l11 H11 hl11 k11 e11 => ?_
          have k811 : Kp F0 H8 H11 := (k9.trans k10 fun _ z => z.elim).trans k11 fun _ z => z.elim
          have k611 : Kp F0 H6 H11 := k68.trans k811 fun _ z => z.elim
          have W11 := W6.pure k611
          have ho11 := k611.get ho6 id
          have hpl11 := k611.get hpl6 id
          have d6 : ∀ (y : PgS) n ds, (pwr n ds y).dir.length ≤ y.dir.length + 1 := fun y n ds => aput_len _ _ _
          have d6' := d6 (palloc (pwr (palloc s).2 (pad (encM kd (hS met its))) (palloc s).1)).1 (palloc (pwr (palloc s).2 (pad (encM kd (hS met its))) (palloc s).1)).2 (pad (encM kd (hF met its)))
          have tv : MtVs K H11 4 [.ref t8, .ref t10] (twoM met kd its (palloc (pwr (palloc s).2 (pad (encM kd (hS met its))) (palloc s).1)).2 (palloc s).2) :=
            .cons (chM_V (k811.sqT (SqT.of e8)) (k611.sqT ha16)) (.cons (chM_V (k11.sqT (SqT.of e10)) (k611.sqT ha26)) .nil)
          walk_at "rd"
          rw [lpv]
          refine ite_dec (fun e => ?_) fun e => absurd (by rfl) e
          walk_at "rd"
          refine ⟨mt, p, q, r, D, met, n, 4, l11, _, _, O6, Od, _, rfl, W11.ka, W11.pg, e11, tv, fun it hi => ?_, .inr rfl, (by show (2 : Nat) ≤ 9; decide), by omega, fun H14 O14 P14 t14 => ?_⟩
          · have : it.p.length = D := by
              rcases List.mem_cons.mp hi with rfl | hi
              · exact hpl'.1
              · rw [List.mem_singleton.mp hi]; exact hpl'.2
            omega
          · walk_at "rd"
            exact k H14 O14 P14 ((((Stp.pure k2).trans t26).trans (Stp.pure k611)).trans t14)
        | up _ _ ea es1 es2 dc pcl _ sv' =>
          subst ea es1 es2
          rename_i pa pc par cs _ _ _
          rw [List.length_append, List.length_singleton] at lpv ld lp
          refine x_cutN ?_
          walk_at "rd"
          refine ite_dec (fun e => absurd e (by omega)) fun e => ?_
          walk_at "rd"
          refine ⟨mt, p, q, r, D, met, n, kd, l1, ws1, hF met its, O4, Od, _, rfl, W4.ka, W4.pg, el14, hv1.mono fun _ _ z => z.kp t24.kp, fun it hi => by have := slF it hi; omega, si.kk, by omega, by omega, fun H5 O5 P5 t5 => ?_⟩
          have W5 := W4.pager P5 t5
          have ho5 := t5.kp.get ho4 W4.nk
          have el15 := t5.kp.get el14 nl14
          have el25 := t5.kp.get el24 nl24
          have hpl5 := t5.kp.get hpl4 npl4
          have npl5 := t5.kp0 hpl4 npl4
          have t25 : Stp O O5 H2 H5 := t24.trans t5
          have hpv5 := hpv2.mono fun _ _ z => z.kp t25.kp
          have t05 := t04.trans t5
          have hv15 := hv1.mono fun _ _ z => z.kp t25.kp
          have hv25 := hv2.mono fun _ _ z => z.kp t25.kp
          have ha15 := t25.kp.sqT ha1
          have ha25 := t25.kp.sqT ha2
          obtain ⟨pvs', xv, epv, hpv', t9, ext, ht9⟩ := pr_snoc hpv5
          rw [ext] at epv
          rw [epv] at hpl5
          walk_at "rd"
          refine ⟨mt, p, a1, l1, r, D, D, met, pv1 met its, kd, ws1, hF met its, rfl, W5.ka, ha15, hpl'.1, D0, hD, el15, hv15, slF, si.kk, fun H7 k7 => ?_⟩
          walk_at "rd"
          refine x_newT fun t8 H8 ht8 k8 e8 => ?_
          have k58 : Kp F0 H5 H8 := k7.trans k8 fun _ z => z.elim
          have ho8 := k58.get ho5 id
          walk_at "rd"
          refine ⟨mt, p, a2, l2, r, D, D, met, pv2 met its, kd, ws2, hS met its, rfl, W5.ka.kp k58 id, k58.sqT ha25, hpl'.2, D0, hD, k58.get el25 id, hv25.mono fun _ _ z => z.kp k58, slS, si.kk, fun H9 k9 => ?_⟩
          walk_at "rd"
          refine x_newT fun t10 H10 ht10 k10 e10 => ?_
          walk_at "rd"
          refine x_newL fun l11 H11 hl11 k11 e11 => ?_
          have k811 : Kp F0 H8 H11 := (k9.trans k10 fun _ z => z.elim).trans k11 fun _ z => z.elim
          have k511 : Kp F0 H5 H11 := k58.trans k811 fun _ z => z.elim
          have W11 := W5.pure k511
          have ho11 := k511.get ho5 id
          have hpl11 := k511.get hpl5 id
          have ht911 := k511.sqT ht9
          have tv : MtVs K H11 4 [.ref t8, .ref t10] (twoM met kd its n (palloc s).2) :=
            .cons (chM_V (k811.sqT (SqT.of e8)) (k511.sqT ha15)) (.cons (chM_V (k11.sqT (SqT.of e10)) (k511.sqT ha25)) .nil)
          walk_at "rd"
          refine ite_dec (fun e => absurd e (by rw [List.length_append, List.length_singleton]; omega)) fun e => ?_
          walk_at "rd"
          refine x_ixL (v := .ref t9) (SqL.of hpl11) at_lastV ?_
          walk_at "rd"
          refine ⟨mt, p, q, r, D, met, _, 4, cs, O5, Od, _, rfl, W11.ka, W11.pg, dc, hD, fun H12 t12 l12 ws12 k12 e12 fr12 el12 hv12 => ?_⟩
          have W12 := W11.pure k12
          have lcs := dc.lz
          have lw12 := hv12.length
          have ho12 := k12.get ho11 id
          have hpl12 := k12.get hpl11 id
          have el112 := k12.get e11 id
          walk_at "rd"
          refine x_slL (SqL.of hpl12) fun l13 H13 hl13 k13 e13 => ?_
          rw [cutV_init] at e13
          have el1213 := k13.get el12 id
          walk_at "rd"
          refine x_slL (SqL.of el1213) fun l14 H14 hl14 k14 e14 => ?_
          rw [cutW_to (by omega)] at e14
          walk_at "rd"
          refine x_catL e14 (k14.get (k13.get el112 id) id) (by rw [List.length_take, sizeLine_eq]; show min _ _ + 2 ≤ _; omega) fun l15 H15 hl15 k15 e15 => ?_
          walk_at "rd"
          refine x_slL (SqL.of (k15.get (k14.get el1213 id) id)) fun l16 H16 hl16 k16 e16 => ?_
          rw [show ((pc : Nat) : Int) + 1 = ((pc + 1 : Nat) : Int) by omega, cutW_from (by omega)] at e16
          walk_at "rd"
          refine x_catL (k16.get e15 id) e16 (by simp only [List.length_append, List.length_take, List.length_drop, sizeLine_eq, List.length_cons, List.length_nil]; omega) fun l17 H17 hl17 k17 e17 => ?_
          have k1217 : Kp F0 H12 H17 := (((k13.trans k14 fun _ z => z.elim).trans k15 fun _ z => z.elim).trans k16 fun _ z => z.elim).trans k17 fun _ z => z.elim
          have k1117 : Kp F0 H11 H17 := k12.trans k1217 fun _ z => z.elim
          have k517 : Kp F0 H5 H17 := k511.trans k1117 fun _ z => z.elim
          have W17 := W5.pure k517
          have e137 : H17 l13 = some (.lst pvs') := k17.get (k16.get (k15.get (k14.get e13 id) id) id) id
          walk_at "rd"
          refine ⟨mt, p, q, l13, l17, r, D, met, _, 4, _, _, _, _, O5, Od, _, s', rfl, by omega, W17, e137, hpv'.mono fun _ _ z => z.kp k517, ?_, e17, ?_, ?_, sv', by omega, D0, hD, fun H18 O18 P18 t18 => ?_⟩
          · exact W12.pg.fresh hl13
          · exact pr_app (pr_app (pr_take _ (hv12.mono fun _ _ z => z.kp k1217)) (tv.mono fun _ _ z => z.kp k1117)) (pr_drop _ (hv12.mono fun _ _ z => z.kp k1217))
          · exact fun z => W5.pg.fresh (k511.free (k12.free (k13.free (k14.free (k15.free (k16.free hl17 id) id) id) id) id) id) z
          · walk_at "rd"
            exact k H18 O18 P18 ((t05.trans (Stp.pure k517)).trans t18)
theorem ok_MetricTree_save (T : Txt K mg c) : GM P w K mg base CX0 176 c.MetricTree "save" (sp_saveM c K 170) := ok_MetricTree_save' T 170
end
/-! ### an insertion goes down -/
/-- the first place of the least -/
structure Fst (l : List Int) (k : Nat) (m : Int) : Prop where
  e : l[k]? = some m
  lo : ∀ {j : Nat} {y : Int}, l[j]? = some y → m ≤ y
  fi : ∀ {j : Nat} {y : Int}, j < k → l[j]? = some y → m < y
theorem Fst.uniq {l : List Int} {k k' : Nat} {m m' : Int} (h : Fst l k m) (h' : Fst l k' m') : k = k' ∧ m = m' := by
  have e1 := h.lo h'.e
  have e2 := h'.lo h.e
  refine ⟨?_, by omega⟩
  rcases Nat.lt_trichotomy k k' with q | q | q
  · have := h'.fi q h.e; omega
  · exact q
  · have := h.fi q h'.e; omega
theorem Fst.ex {l : List Int} : l ≠ [] → ∃ k m, Fst l k m := by
  refine rev_ind (P := fun l => l ≠ [] → ∃ k m, Fst l k m) (fun h => absurd rfl h) (fun l x ih _ => ?_) l
  by_cases e : l = []
  · subst e
    refine ⟨0, x, rfl, fun {j y} z => ?_, fun {j y} hj => absurd hj (Nat.not_lt_zero _)⟩
    cases j with
    | zero => cases (Option.some.inj z); exact Int.le_refl _
    | succ j => simp at z
  · obtain ⟨k, m, h⟩ := ih e
    have hk := (List.getElem?_eq_some_iff.mp h.e).1
    have sp : ∀ {j : Nat} {y : Int}, (l ++ [x])[j]? = some y → l[j]? = some y ∨ (j = l.length ∧ y = x) := fun {j y} z => by
      rcases Nat.lt_or_ge j l.length with q | q
      · rw [List.getElem?_append_left q] at z; exact .inl z
      · rw [List.getElem?_append_right q] at z
        obtain ⟨q2, _⟩ := List.getElem?_eq_some_iff.mp z
        rw [List.length_singleton] at q2
        have : j = l.length := by omega
        subst this
        rw [Nat.sub_self] at z
        exact .inr ⟨rfl, (Option.some.inj z).symm⟩
    by_cases q : x < m
    · refine ⟨l.length, x, by simp, fun {j y} z => ?_, fun {j y} hj z => ?_⟩
      · rcases sp z with z | ⟨_, rfl⟩
        · have := h.lo z; omega
        · exact Int.le_refl _
      · rcases sp z with z | ⟨e, _⟩
        · have := h.lo z; omega
        · omega
    · refine ⟨k, m, by rw [List.getElem?_append_left hk]; exact h.e, fun {j y} z => ?_, fun {j y} hj z => ?_⟩
      · rcases sp z with z | ⟨_, rfl⟩
        · exact h.lo z
        · omega
      · rcases sp z with z | ⟨e, _⟩
        · exact h.fi hj z
        · omega
theorem Fst.mem {l : List Int} {k : Nat} {m m' : Int} (h : Fst l k m) (h1 : m' ∈ l) (h2 : ∀ y, y ∈ l → m' ≤ y) : m' = m := by
  obtain ⟨j, hj, e⟩ := List.getElem_of_mem h1
  have := h.lo (j := j) (y := m') (by rw [List.getElem?_eq_getElem hj, e])
  have := h2 m (List.mem_of_getElem? h.e)
  omega
theorem idx_fst {l : List Int} {k : Nat} {m : Int} (h : Fst l k m) : ∀ j z', j < k → (l.map V.int)[j]? = some z' → eqV z' (.int m) = false := fun j z' hj e => by
  rw [List.getElem?_map] at e
  cases q : l[j]? with
  | none => rw [q] at e; cases e
  | some y =>
    rw [q] at e
    cases e
    have := h.fi hj q
    show decide (y = m) = false
    exact decide_eq_false (by omega)
def flat_int (ks : List Int) : (ks.map V.int).all flatV = true := by
  rw [List.all_map]
  exact List.all_eq_true.mpr fun _ _ => rfl
def rchs (m : Str) (pt : List Int) (cs : List Mt) : List Int := cs.map fun ch => dist m ch.p pt
def grow (m : Str) (pt : List Int) (cs : List Mt) (k : Nat) (ch : Mt) : List Mt := cs.set k ⟨ch.p, max ch.x (dist m ch.p pt), ch.y⟩
inductive Ds (D : Nat) (m : Str) (pt : List Int) : Int → PgS → List (Int × Nat) → Int → List Mt → PgS → Prop
  | leaf {n : Int} {its : List Mt} {s : PgS} : DecM D (gpg s n) 3 its → Ds D m pt n s [] n its s
  | node {n l : Int} {its es : List Mt} {ch : Mt} {path : List (Int × Nat)} {k : Nat} {d : Int} {s s' : PgS} : DecM D (gpg s n) 4 its → Fst (rchs m pt its) k d → its[k]? = some ch → s.dir.length ≤ 900000 → Ds D m pt ch.y (pwr n (pad (encM 4 (grow m pt its k ch))) s) path l es s' → Ds D m pt n s ((n, k) :: path) l es s'
/-- a page that is read: what the next turn needs -/
def CurM (D : Nat) (m : Str) (pt : List Int) (n : Int) (s : PgS) (path : List (Int × Nat)) (l : Int) (es : List Mt) (s' : PgS) (kd : Int) (its : List Mt) : Prop :=
  (path = [] ∧ kd = 3 ∧ n = l ∧ its = es ∧ s = s' ∧ ∀ it ∈ its, MtOk D it) ∨ ∃ k d ch rest, path = (n, k) :: rest ∧ kd = 4 ∧ Fst (rchs m pt its) k d ∧ its[k]? = some ch ∧ its.length ≤ 9 ∧ s.dir.length ≤ 900000 ∧ (∀ it ∈ its, MtOk D it) ∧ Ds D m pt ch.y (pwr n (pad (encM 4 (grow m pt its k ch))) s) rest l es s'
theorem Ds.cur {D : Nat} {m : Str} {pt : List Int} {n l : Int} {s s' : PgS} {path : List (Int × Nat)} {es : List Mt} (h : Ds D m pt n s path l es s') : ∃ kd its, DecM D (gpg s n) kd its ∧ CurM D m pt n s path l es s' kd its := by
  cases h with
  | leaf d => exact ⟨3, _, d, .inl ⟨rfl, rfl, rfl, rfl, rfl, d.ok⟩⟩
  | node d f e z w => exact ⟨4, _, d, .inr ⟨_, _, _, _, rfl, rfl, f, e, d.lz, z, d.ok, w⟩⟩
theorem pr_set {α β : Type} {R : α → β → Prop} : ∀ {l : List α} {m : List β} {x : α} {y : β} (k : Nat), Paired R l m → R x y → Paired R (l.set k x) (m.set k y)
  | _, _, _, _, _, .nil, _ => .nil
  | _, _, _, _, 0, .cons _ t, r => .cons r t
  | _, _, _, _, k + 1, .cons q t, r => .cons q (pr_set k t r)
section
variable {P : Program} {w : World} {K : PySem.W.Frag} {mg : Str → Option Value} {base : Heap} {c : Cl}
def sp_MetricTree_insert (c : Cl) (K : PySem.W.Frag) : Sp := fun vs H Q _ => ∃ (mt p q : Addr) (r : Int) (D : Nat) (met : Str) (v : V) (it : Mt) (m : Int) (path : List (Int × Nat)) (es : List Mt) (O Od : Addr → Prop) (s s1 s' : PgS), vs = [.ref mt, v] ∧ MW c H mt p q r D met O Od s ∧ MtV K H 3 v it ∧ it.p.length = D ∧ 0 < D ∧ D ≤ 8 ∧ Ds D met it.p r s path m es s1 ∧ path.length < 170 ∧ Sm D met path m 3 (es ++ [it]) s1 s' ∧
  ∀ H' O', PagAt c H' p q O' Od s' → Stp O O' H H' → Q .non H'
theorem ok_MetricTree_insert (T : Txt K mg c) : GM P w K mg base CX0 177 c.MetricTree "insert" (sp_MetricTree_insert c K) := by
  obtain ⟨f, fd, F, gf, gi⟩ := T.f_MetricTree_insert
  obtain ⟨_, mg_LEAF⟩ := T.m_LEAF
  obtain ⟨_, mg_INNER⟩ := T.m_INNER
  have tc_MetricTree := T.cl_MetricTree; have tn_MetricTree_pager := T.n_MetricTree_pager; have tn_MetricTree_root := T.n_MetricTree_root; have tn_MetricTree_dimensions := T.n_MetricTree_dimensions; have tn_MetricTree_metric := T.n_MetricTree_metric
  refine ⟨f, fd, ["self", "item"], F.ok sc_MetricTree_insert ?_ (fun cdv A outer s0 H vs Q E hr h => ?_), ⟨gf, gi, F.kp⟩, (F.binds (ps := ["self", "item"]) fun _ _ _ _ _ _ us hl => match us, hl with | [_, _], _ => rfl)⟩
  · rintro vs H Q E ⟨_, _, _, _, _, _, _, _, _, _, _, _, _, _, _, _, rfl, _⟩
    rfl
  · obtain ⟨mt, p, q, r, D, met, v, it, m, path, es, O, Od, s, s1, s', rfl, W, hv, lit, D0, hD, ds, lp, sv, k⟩ := h
    obtain ⟨dx, ho⟩ := W.ka.o
    obtain ⟨tv, qv, rfl, htv, hqv⟩ := hv
    refine ⟨_, (pss_cons (ps_set (i := 2) sc_MetricTree_insert.nd rfl (Or.inl rfl) (pe_lst pa_nil))
      (pss_cons (ps_set (i := 3) sc_MetricTree_insert.nd rfl (Or.inl rfl) (pe_fldK rfl (pv 0)))
      (pss_cons (ps_asg (pe_gm T.cl_MetricTree (ok_MetricTree_load T) (pv 0) (hr.mono (by decide)) pass0S (pa_cons (pv 3) pa_nil)) (pg_kT rfl (pg_tup (n := 2) rfl (pgs_cons (pg_name (i := 4) sc_MetricTree_insert.nd rfl (Or.inl rfl)) (pgs_cons (pg_name (i := 5) sc_MetricTree_insert.nd rfl (Or.inl rfl)) pgs_nil)))))
      (pss_cons (ps_while PassesOwn.never (pt_cmpR op_eq (pv 4) (pe_glob (v := .int 4) rfl mg_INNER ⟨_, rfl⟩) (nomark _)) (pss_cons (ps_setLc (i := 6) (own := [("child", 10)]) (g := (gName 10)) (tt := tYes) rfl sc_MetricTree_insert.nd rfl rfl (sw_true rfl rfl rfl (by decide +kernel)) (pi_listK rfl (pv 5)) (blkOk_by (N := ["self", "item", "path", "number", "kind", "items", "reaches", "place", "pivot", "radius", "child"]) (sc := defScope s_MetricTree_insert) (by decide +kernel)) (fun _ _ _ _ _ => (pg_name (i := 10) sc_MetricTree_insert.nd rfl (Or.inl rfl))) (fun _ _ _ _ _ => pts_nil) (fun _ _ _ _ _ => (pe_g (ok_distance T) (hr.mono (by decide)) pass0S (pa_cons (pe_fldK rfl (pv 0)) (pa_cons (pe_ix (r := rIxT K) ix_tup (pv 10) pe_int (fun _ _ => rfl)) (pa_cons (pe_ix (r := rIxT K) ix_tup (pv 1) pe_int (fun _ _ => rfl)) pa_nil))))))
      (pss_cons (ps_set (i := 7) sc_MetricTree_insert.nd rfl (Or.inl rfl) (pe_kBM rfl (pe_bm PySem.F.plainAttrs_list PySem.F.slot_list_index PySem.F.type_list_index mt_index (pv 6) (pa_cons (pe_callB (r := rMin K) (cr_min rfl) (by rfl) T.z_min (by decide +kernel) (pa_cons (pv 6) pa_nil)) pa_nil))))
      (pss_cons (ps_asg (pe_ix (r := rIxL K) ix_list (pv 5) (pv 7) (fun _ _ => rfl)) (pg_kT rfl (pg_tup (n := 3) rfl (pgs_cons (pg_name (i := 8) sc_MetricTree_insert.nd rfl (Or.inl rfl)) (pgs_cons (pg_name (i := 9) sc_MetricTree_insert.nd rfl (Or.inl rfl)) (pgs_cons (pg_name (i := 10) sc_MetricTree_insert.nd rfl (Or.inl rfl)) pgs_nil))))))
      (pss_cons (ps_asg (pe_tup (pa_cons (pv 8) (pa_cons (pe_callB (c_max2 rfl) (by rfl) T.z_max (by decide +kernel) (pa_cons (pv 9) (pa_cons (pe_ix (r := rIxL K) ix_list (pv 6) (pv 7) (fun _ _ => rfl)) pa_nil))) (pa_cons (pv 10) pa_nil)))) (pg_sub (pv 5) (pv 7) set_list))
      (pss_cons (ps_expr (pe_gm T.cl_MetricTree (ok_MetricTree_store T) (pv 0) (hr.mono (by decide)) pass0S (pa_cons (pv 3) (pa_cons (pv 4) (pa_cons (pv 5) pa_nil)))))
      (pss_cons (ps_expr (pe_kBM rfl (pe_bm PySem.F.plainAttrs_list PySem.F.slot_list_append PySem.F.type_list_append mt_append (pv 2) (pa_cons (pe_tup (pa_cons (pv 3) (pa_cons (pv 7) pa_nil))) pa_nil))))
      (pss_cons (ps_set (i := 3) sc_MetricTree_insert.nd rfl (Or.inl rfl) (pv 10))
      (pss_one (ps_asg (pe_gm T.cl_MetricTree (ok_MetricTree_load T) (pv 0) (hr.mono (by decide)) pass0S (pa_cons (pv 3) pa_nil)) (pg_kT rfl (pg_tup (n := 2) rfl (pgs_cons (pg_name (i := 4) sc_MetricTree_insert.nd rfl (Or.inl rfl)) (pgs_cons (pg_name (i := 5) sc_MetricTree_insert.nd rfl (Or.inl rfl)) pgs_nil))))))))))))))
      (pss_one (ps_expr (pe_gm T.cl_MetricTree (ok_MetricTree_save T) (pv 0) (hr.mono (by decide)) pass0S (pa_cons (pv 2) (pa_cons (pv 3) (pa_cons (pe_glob (v := .int 3) rfl mg_LEAF ⟨_, rfl⟩) (pa_cons (pe_op op_cat (pv 5) (pe_lst (pa_cons (pv 1) pa_nil))) pa_nil))))))))))), ?_⟩
    walk_at "cx"
    walk_at "rd"
    refine x_newL fun pl H1 hpl k1 e1 => ?_
    have ho1 := k1.get ho id
    walk_at "rd"
    have W1 := W.pure k1
    have npl : ¬ O pl := W.pg.fresh hpl
    obtain ⟨kd0, its0, dec0, cur0⟩ := ds.cur
    refine ⟨mt, p, q, r, D, met, r, kd0, its0, O, Od, s, rfl, W1.ka, W1.pg, dec0, hD, fun H2 t2 l2 ws2 k2 e2 hl2 el2 hv2 => ?_⟩
    walk_at "rd"
    refine x_wh (fun mm σ H' => ∃ dn rest n kd l ws its pvs sc O' u6 u7 u8 u9 u10, mm = rest.length ∧ path = dn ++ rest ∧ σ = [some (.ref mt), some (.ref tv), some (.ref pl), some (.int n), some (.int kd), some (.ref l), u6, u7, u8, u9, u10] ∧ H' pl = some (.lst pvs) ∧ Paired (PthV K H') pvs dn ∧ ¬ O' pl ∧ ¬ O' l ∧ (∀ b o, H b = some o → (O b → Fix o) → b ≠ l) ∧ pl ≠ l ∧ H' l = some (.lst ws) ∧ MtVs K H' kd ws its ∧ CurM D met it.p n sc rest m es s1 kd its ∧ MW c H' mt p q r D met O' Od sc ∧ Stp O O' H H') ?_ ?_
    · refine ⟨_, [], path, r, kd0, l2, ws2, its0, [], s, O, none, none, none, none, none, rfl, rfl, rfl, k2.get e1 id, .nil, npl, W1.pg.fresh hl2, (Stp.pure (G := O) k1).new hl2, ne_of_none e1 hl2, el2, hv2, cur0, W1.pure k2, Stp.pure (k1.trans k2 fun _ z => z.elim)⟩
    · rintro mm σ H3 ⟨dn, rest, n, kd, l, ws, its, pvs, sc, O3, u6, u7, u8, u9, u10, rfl, ep, rfl, epl, hpv, np3, nl3, fl3, npl', el, hv, cur, W3, t3⟩
      obtain ⟨dx3, ho3⟩ := W3.ka.o
      have htv3 := t3.kp.sqT htv
      have hqv3 := t3.kp.sqT hqv
      walk_at "rd"
      rcases cur with ⟨rfl, rfl, rfl, rfl, rfl, iok⟩ | ⟨kk, d, ch, rest', rfl, rfl, fs, ech, lz, dl, iok, ds'⟩
      · rw [decide_eq_false (by decide)]
        walk_at "rd"
        refine x_newL fun l4 H4 hl4 k4 e4 => ?_
        walk_at "rd"
        have lws := hv.length
        have lz := sv.si.lz
        rw [List.length_append, List.length_singleton] at lz
        refine x_catL (k4.get el id) e4 (by rw [List.length_singleton, sizeLine_eq]; omega) fun l5 H5 hl5 k5 e5 => ?_
        have k35 : Kp F0 H3 H5 := k4.trans k5 fun _ z => z.elim
        rw [List.append_nil] at ep
        subst ep
        walk_at "rd"
        refine ⟨mt, p, q, pl, l5, r, D, met, _, 3, path, _, pvs, _, O3, Od, _, s', rfl, lp, W3.pure k35, k35.get epl id, hpv.mono fun _ _ z => z.kp k35, np3, e5, ?_, ?_, sv, by omega, D0, hD, fun H6 O6 P6 t6 => ?_⟩
        · exact pr_app (hv.mono fun _ _ z => z.kp k35) (.cons ⟨tv, qv, rfl, k35.sqT htv3, k35.sqT hqv3⟩ .nil)
        · exact W3.pg.fresh (k4.free hl5 id)
        · walk_at "rd"
          exact k H6 O6 P6 ((t3.trans (Stp.pure k35)).trans t6)
      · rw [decide_eq_true rfl]
        walk_at "rd"
        refine ⟨_, fun σ' H' z => ⟨rest'.length, Nat.lt_succ_self _, z⟩, ?_⟩
        walk_at "rd"
        have lws := hv.length
        refine wlcP (ys := (rchs met it.p its).map V.int) (Wk.list (xs := ws)) (by rw [List.length_map, rchs, List.length_map]; omega) (by omega) (fun H' s => SqL.of (s.get el id)) (fun i x y H' R ex ey kp hR => ?_) (fun z H4 hz k4 e4 => ?_)
        · obtain ⟨c1, ec1, t9, q9, rfl, ht9, hq9⟩ := pgt hv ex
          have ey2 : y = .int (dist met c1.p it.p) := by
            rw [rchs, List.getElem?_map, List.getElem?_map, ec1] at ey
            exact (Option.some.inj ey).symm
          subst ey2
          have ht9' := kp.sqT ht9
          have hq9' := kp.sqT hq9
          have htv' := kp.sqT htv3
          have hqv' := kp.sqT hqv3
          have ho' := kp.get ho3 id
          have lc := (iok c1 (List.mem_of_getElem? ec1)).l
          walk_at "rd"
          refine ⟨rfl, ?_⟩
          walk_at "rd"
          refine ⟨met, q9, qv, c1.p, it.p, rfl, hq9', hqv', by omega, by omega, by omega, fun H5 k5 => ?_⟩
          exact hR H5 k5
        · have el4 := k4.get el id
          have nzl : z ≠ l := (ne_of_none el hz).symm
          have ho4 := k4.get ho3 id
          have W4 := W3.pure k4
          have lr : (rchs met it.p its).length = its.length := List.length_map _
          have hk := (List.getElem?_eq_some_iff.mp ech).1
          obtain ⟨v9, ev9, t9, q9, rfl, ht9, hq9⟩ := pgetr hv ech
          have ht94 : SqT K H4 t9 [.ref q9, .int ch.x, .int ch.y] := k4.sqT ht9
          have hq94 := k4.sqT hq9
          walk_at "rd"
          refine x_min (SqL.of e4) (by omega) fun mn hmn hle => ?_
          obtain rfl := fs.mem hmn hle
          walk_at "rd"
          refine ⟨z, _, .int mn, kk, .int mn, rfl, rfl, SqL.of e4, rfl, flat_int _, by rw [List.getElem?_map, fs.e]; rfl, decide_eq_true rfl, idx_fst fs, ?_⟩
          walk_at "rd"
          refine x_ixL (v := .ref t9) (SqL.of el4) (atI_at kk rfl ev9) ?_
          walk_at "rd"
          refine x_ixL (v := .int mn) (SqL.of e4) (atI_at kk rfl (by rw [List.getElem?_map, fs.e]; rfl)) ?_
          have emn : mn = dist met ch.p it.p := by
            have := fs.e
            rw [rchs, List.getElem?_map, ech] at this
            exact (Option.some.inj this).symm
          walk_at "rd"
          try refine x_max2 ?_
          walk_at "rd"
          refine x_newT fun t5 H5 ht5 k5 e5 => ?_
          have el5 := k5.get el4 id
          walk_at "rd"
          refine x_setL el5 (ixN_at kk rfl (by omega)) ?_
          have e6 : (upd H5 l (.lst (ws.set kk (.ref t5))) : Hp) l = some (.lst (ws.set kk (.ref t5))) := upd_same
          have k6 : Kp (F1 l) H5 (upd H5 l (.lst (ws.set kk (.ref t5)))) := Kp.put el5 id
          generalize upd H5 l (.lst (ws.set kk (.ref t5))) = H6 at e6 k6 ⊢
          have k35 : Kp F0 H3 H5 := k4.trans k5 fun _ z => z.elim
          have k36 : Kp (F1 l) H3 H6 := (k35.mono fun _ z => z.elim).trans k6 fun _ z => .inl z
          have nml : mt ≠ l := fun e => by rw [e, el] at ho3; cases ho3
          have W6 := (W3.pure k35).off k6 (fun b z => by rw [z]; exact nl3) nml
          have ho6 := k36.get ho3 nml
          have mv6 : MtVs K H6 4 (ws.set kk (.ref t5)) (grow met it.p its kk ch) := by
            unfold grow
            refine pr_set kk (hv.mono fun _ _ z => z.kp k36) ⟨t5, q9, rfl, k6.sqT (SqT.of ?_), k36.sqT hq9⟩
            rw [e5, emn]; rfl
          have okg : ∀ x ∈ grow met it.p its kk ch, x.p.length ≤ 8 := fun x hx => by
            rcases List.mem_or_eq_of_mem_set hx with hx | rfl
            · have := (iok x hx).l; omega
            · have := (iok ch (List.mem_of_getElem? ech)).l
              show ch.p.length ≤ 8; omega
          walk_at "rd"
          refine ⟨mt, p, q, r, D, met, n, 4, l, _, _, O3, Od, sc, rfl, W6.ka, W6.pg, e6, mv6, okg, .inr rfl, by unfold grow; rw [List.length_set]; omega, by omega, fun H7 O7 P7 t7 => ?_⟩
          have W7 := W6.pager P7 t7
          have ho7 := t7.kp.get ho6 W6.nk
          have epl6 := k36.get epl npl'
          have epl7 := t7.kp.get epl6 np3
          have np7 := t7.kp0 epl6 np3
          have hpv6 := hpv.mono fun _ _ z => z.kp k36
          walk_at "rd"
          refine x_newT fun t8 H8 ht8 k8 e8 => ?_
          have epl8 := k8.get epl7 id
          walk_at "rd"
          have lpv := hpv.length
          have lpath : path.length = dn.length + (rest'.length + 1) := by rw [ep, List.length_append, List.length_cons]
          refine x_app epl8 (by omega) fun H9 e9 k9 => ?_
          have k79 : Kp (F1 pl) H7 H9 := (k8.mono fun _ z => z.elim).trans k9 fun _ z => .inl z
          have nmp : mt ≠ pl := ne_of_none ho hpl
          have W9 := W7.off k79 (fun b z => by rw [z]; exact np7) nmp
          have ho9 := k79.get ho7 nmp
          have T9 : Stp O O7 H H9 := ((t3.off2 k36 fl3).trans t7).off1 k79 hpl
          obtain ⟨kd', its', dec', cur'⟩ := ds'.cur
          walk_at "rd"
          refine ⟨mt, p, q, r, D, met, ch.y, kd', its', O7, Od, _, rfl, W9.ka, W9.pg, dec', hD, fun H10 t10 l10 ws10 k10 e10 hl10 el10 hv10 => ?_⟩
          walk_at "rd"
          have e910 := k10.get e9 id
          refine ⟨dn ++ [(n, kk)], rest', ch.y, kd', l10, ws10, its', _, _, O7, _, _, _, _, _, rfl, by rw [ep, List.append_assoc]; rfl, rfl, e910, pr_app (hpv6.mono fun _ _ z => ((z.kp t7.kp).kp k79).kp k10) (.cons ⟨t8, rfl, k10.sqT (k9.sqT (SqT.of e8))⟩ .nil), np7, W9.pg.fresh hl10, T9.new hl10, ne_of_none e9 hl10, el10, hv10, cur', W9.pure k10, T9.trans (Stp.pure k10)⟩
end
/-! ### items as data -/
instance : DecidableEq Mt := fun x y =>
  match x, y with
  | ⟨a, b, c⟩, ⟨a', b', c'⟩ => if h : a = a' ∧ b = b' ∧ c = c' then .isTrue (by obtain ⟨rfl, rfl, rfl⟩ := h; rfl) else .isFalse fun e => h (by cases e; exact ⟨rfl, rfl, rfl⟩)
def mtD (it : Mt) : PyData := .tuple [.int it.x, .int it.y, .tuple (it.p.map PyData.int)]
theorem mtD_inj {x y : Mt} : mtD x = mtD y ↔ x = y := by
  obtain ⟨p, a, b⟩ := x
  obtain ⟨q, c, d⟩ := y
  unfold mtD
  simp only [PyData.tuple.injEq, List.cons.injEq, PyData.int.injEq, and_true, Mt.mk.injEq, map_int_inj]
  constructor
  · rintro ⟨rfl, rfl, rfl⟩; exact ⟨rfl, rfl, rfl⟩
  · rintro ⟨rfl, rfl, rfl⟩; exact ⟨rfl, rfl, rfl⟩
theorem mtD_sh (x : Mt) : Sh 2 (mtD x) := Sh.tuple fun d hd => by
  rcases List.mem_cons.mp hd with rfl | hd
  · exact ⟨by simp [PyData.canLay0], by simp [PyData.depth], by simp [nb]⟩
  · rcases List.mem_cons.mp hd with rfl | hd
    · exact ⟨by simp [PyData.canLay0], by simp [PyData.depth], by simp [nb]⟩
    · rw [List.mem_singleton.mp hd]
      exact Sh.tuple (sh_ints _)
theorem MtV.dp {K : PySem.W.Frag} {H : Hp} {v : V} {it : Mt} (h : MtV K H 3 v it) : Dp K H v (mtD it) := by
  obtain ⟨t, q, rfl, ht, hq⟩ := h
  exact .tup ht (.cons (.int _) (.cons (.int _) (.cons (.tup hq (dp_ints _)) .nil)))
theorem x_inM {K : PySem.W.Frag} {H : Hp} {Q : VK} {a : Addr} {v : V} {it : Mt} {ws : List V} {its : List Mt} (ht : MtV K H 3 v it) (ha : SqL K H a ws) (hw : MtVs K H 3 ws its) (q : Q (.bl (decide (it ∈ its))) H) : rInD K v (.ref a) H Q := by
  have shp : ∀ d ∈ its.map mtD, Sh 2 d := fun d hd => by
    obtain ⟨p, _, rfl⟩ := List.mem_map.mp hd
    exact mtD_sh p
  refine ⟨mtD it, _, ht.dp, .lst ha (dp_all (fun _ _ h => MtV.dp h) hw), (mtD_sh it).shaped, (Sh.list shp).shaped, ?_⟩
  have e : ∀ ps : List Mt, (ps.map mtD).any (fun z => PyData.eqv z (mtD it)) = decide (it ∈ ps) := fun ps => by
    induction ps with
    | nil => rfl
    | cons p ps ih =>
      rw [List.map_cons, List.any_cons, ih, eqv_dec (p := p = it) (mtD_sh p).2.2 (mtD_sh it).2.2 mtD_inj, Bool.eq_iff_iff, Bool.or_eq_true, decide_eq_true_eq, decide_eq_true_eq, decide_eq_true_eq, List.mem_cons]
      exact or_congr_left ⟨Eq.symm, Eq.symm⟩
  rw [e]
  exact q
theorem x_neM {K : PySem.W.Frag} {H : Hp} {Q : VK} {u v : V} {x y : Mt} (hx : MtV K H 3 u x) (hy : MtV K H 3 v y) (q : Q (.bl (!decide (x = y))) H) : rNeD K u v H Q :=
  x_neD hx.dp hy.dp (mtD_sh x).shaped (mtD_sh y).shaped (by rw [eqv_dec (p := x = y) (mtD_sh x).2.2 (mtD_sh y).2.2 mtD_inj]; exact q)
/-! ### the way to a leaf with an item: depth first -/
def cnd (m : Str) (pt : List Int) (pa : List (Int × Nat)) (n : Int) : Nat → List Mt → List (List (Int × Nat) × Int)
  | _, [] => []
  | k, c :: cs => (if dist m c.p pt ≤ c.x then [(pa ++ [(n, k)], c.y)] else []) ++ cnd m pt pa n (k + 1) cs
theorem cnd_len (m : Str) (pt : List Int) (pa : List (Int × Nat)) (n : Int) : ∀ (k : Nat) (cs : List Mt), (cnd m pt pa n k cs).length ≤ cs.length
  | _, [] => Nat.le_refl _
  | k, c :: cs => by
    have := cnd_len m pt pa n (k + 1) cs
    show ((if dist m c.p pt ≤ c.x then [(pa ++ [(n, k)], c.y)] else []) ++ cnd m pt pa n (k + 1) cs).length ≤ cs.length + 1
    rw [List.length_append]
    have : (if dist m c.p pt ≤ c.x then [(pa ++ [(n, k)], c.y)] else []).length ≤ 1 := by split <;> simp
    omega
inductive Fd (D : Nat) (m : Str) (v : Int → List Int) (it : Mt) : List (List (Int × Nat) × Int) → List (Int × Nat) → Int → List Mt → Nat → Prop
  | hit {pa : List (Int × Nat)} {n : Int} {its : List Mt} {st : List (List (Int × Nat) × Int)} {k : Nat} : DecM D (v n) 3 its → it ∈ its → Fd D m v it ((pa, n) :: st) pa n its k
  | miss {pa pa' : List (Int × Nat)} {n n' : Int} {its es : List Mt} {st : List (List (Int × Nat) × Int)} {k : Nat} : DecM D (v n) 3 its → it ∉ its → Fd D m v it st pa' n' es k → Fd D m v it ((pa, n) :: st) pa' n' es (k + 1)
  | down {pa pa' : List (Int × Nat)} {n n' : Int} {its es : List Mt} {st : List (List (Int × Nat) × Int)} {k : Nat} : DecM D (v n) 4 its → pa.length ≤ 1000 → st.length ≤ 100000 → Fd D m v it (cnd m it.p pa n 0 its ++ st) pa' n' es k → Fd D m v it ((pa, n) :: st) pa' n' es (k + 1)
theorem Fd.cur {D : Nat} {m : Str} {v : Int → List Int} {it : Mt} {pa pa' : List (Int × Nat)} {n n' : Int} {es : List Mt} {st : List (List (Int × Nat) × Int)} {k : Nat} (h : Fd D m v it ((pa, n) :: st) pa' n' es k) :
    ∃ kd its, DecM D (v n) kd its ∧ ((kd = 3 ∧ it ∈ its ∧ pa' = pa ∧ n' = n ∧ es = its) ∨ (kd = 3 ∧ it ∉ its ∧ ∃ k', k = k' + 1 ∧ Fd D m v it st pa' n' es k') ∨ (kd = 4 ∧ pa.length ≤ 1000 ∧ st.length ≤ 100000 ∧ ∃ k', k = k' + 1 ∧ Fd D m v it (cnd m it.p pa n 0 its ++ st) pa' n' es k')) := by
  cases h with
  | hit d i => exact ⟨3, _, d, .inl ⟨rfl, i, rfl, rfl, rfl⟩⟩
  | miss d i f => exact ⟨3, _, d, .inr (.inl ⟨rfl, i, _, rfl, f⟩)⟩
  | down d l1 l2 f => exact ⟨4, _, d, .inr (.inr ⟨rfl, l1, l2, _, rfl, f⟩)⟩
theorem Fd.ne {D : Nat} {m : Str} {v : Int → List Int} {it : Mt} {pa' : List (Int × Nat)} {n' : Int} {es : List Mt} {st : List (List (Int × Nat) × Int)} {k : Nat} (h : Fd D m v it st pa' n' es k) : ∃ pa n st', st = (pa, n) :: st' := by
  cases h <;> exact ⟨_, _, _, rfl⟩
/-- a row of waiting: a way and a page -/
def StV (K : PySem.W.Frag) (H0 : Hp) (wl : Addr) (H : Hp) (v : V) (q : List (Int × Nat) × Int) : Prop := ∃ t pl pvs, v = .ref t ∧ SqT K H t [.ref pl, .int q.2] ∧ H0 pl = none ∧ pl ≠ wl ∧ H pl = some (.lst pvs) ∧ Paired (PthV K H) pvs q.1
theorem StV.kp {K : PySem.W.Frag} {H0 : Hp} {wl : Addr} {H H' : Hp} {v : V} {q : List (Int × Nat) × Int} (k : Kp (F1 wl) H H') (h : StV K H0 wl H v q) : StV K H0 wl H' v q := by
  obtain ⟨t, pl, pvs, e, h1, h2, h3, h4, h5⟩ := h
  exact ⟨t, pl, pvs, e, k.sqT h1, h2, h3, k.get h4 h3, h5.mono fun _ _ z => z.kp k⟩
section
variable {P : Program} {w : World} {K : PySem.W.Frag} {mg : Str → Option Value} {base : Heap} {c : Cl}
def sp_MetricTree_path_to (c : Cl) (K : PySem.W.Frag) : Sp := fun vs H Q _ => ∃ (mt p q : Addr) (r : Int) (D : Nat) (met : Str) (v : V) (it : Mt) (m : Int) (path : List (Int × Nat)) (es : List Mt) (k : Nat) (O Od : Addr → Prop) (s : PgS), vs = [.ref mt, v] ∧ MkA c H mt p r D met ∧ PagAt c H p q O Od s ∧ MtV K H 3 v it ∧ it.p.length = D ∧ 0 < D ∧ D ≤ 8 ∧ Fd D met (gpg s) it [([], r)] path m es k ∧
  ∀ H' t pl pvs, Kp F0 H H' → SqT K H' t [.ref pl, .int m] → H pl = none → H' pl = some (.lst pvs) → Paired (PthV K H') pvs path → Q (.ref t) H'
theorem ok_MetricTree_path_to (T : Txt K mg c) : GM P w K mg base CX0 5 c.MetricTree "path_to" (sp_MetricTree_path_to c K) := by
  obtain ⟨f, fd, F, gf, gi⟩ := T.f_MetricTree_path_to
  obtain ⟨_, mg_LEAF⟩ := T.m_LEAF
  have tc_MetricTree := T.cl_MetricTree; have tn_MetricTree_pager := T.n_MetricTree_pager; have tn_MetricTree_root := T.n_MetricTree_root; have tn_MetricTree_dimensions := T.n_MetricTree_dimensions; have tn_MetricTree_metric := T.n_MetricTree_metric
  refine ⟨f, fd, ["self", "item"], F.ok sc_MetricTree_path_to ?_ (fun cdv A outer s0 H vs Q E hr h => ?_), ⟨gf, gi, F.kp⟩, (F.binds (ps := ["self", "item"]) fun _ _ _ _ _ _ us hl => match us, hl with | [_, _], _ => rfl)⟩
  · rintro vs H Q E ⟨_, _, _, _, _, _, _, _, _, _, _, _, _, _, _, rfl, _⟩
    rfl
  · obtain ⟨mt, p, q, r, D, met, v, it, m, path, es, fuel, O, Od, s, rfl, hk, hP, hv, lit, D0, hD, fd0, k⟩ := h
    obtain ⟨dx, ho⟩ := hk.o
    obtain ⟨tv, qv, rfl, htv, hqv⟩ := id hv
    refine ⟨_, (pss_cons (ps_set (i := 2) sc_MetricTree_path_to.nd rfl (Or.inl rfl) (pe_lst (pa_cons (pe_tup (pa_cons (pe_lst pa_nil) (pa_cons (pe_fldK rfl (pv 0)) pa_nil))) pa_nil)))
      (pss_cons (ps_while PassesOwn.never (pt_cmpR op_gt (pe_callB (r := rLenQ K) c_len (by rfl) T.z_len PySem.boot_len (pa_cons (pv 2) pa_nil)) pe_int (nomark _)) (pss_cons (ps_asg (pe_kBM0 rfl (pe_bm0 PySem.F.plainAttrs_list PySem.F.slot_list_pop PySem.F.type_list_pop mt_pop (pv 2))) (pg_kT rfl (pg_tup (n := 2) rfl (pgs_cons (pg_name (i := 3) sc_MetricTree_path_to.nd rfl (Or.inl rfl)) (pgs_cons (pg_name (i := 4) sc_MetricTree_path_to.nd rfl (Or.inl rfl)) pgs_nil)))))
      (pss_cons (ps_asg (pe_gm T.cl_MetricTree (ok_MetricTree_load T) (pv 0) (hr.mono (by decide)) pass0S (pa_cons (pv 4) pa_nil)) (pg_kT rfl (pg_tup (n := 2) rfl (pgs_cons (pg_name (i := 5) sc_MetricTree_path_to.nd rfl (Or.inl rfl)) (pgs_cons (pg_name (i := 6) sc_MetricTree_path_to.nd rfl (Or.inl rfl)) pgs_nil)))))
      (pss_one (ps_if (pt_cmpR op_eq (pv 5) (pe_glob (v := .int 3) rfl mg_LEAF ⟨_, rfl⟩) (nomark _)) (pss_one (ps_if (pt_cmpR (r := rInD K) (op_inD (rm65 hr)) (pv 1) (pv 6) rfl) (pss_one (ps_ret (pe_tup (pa_cons (pv 3) (pa_cons (pv 4) pa_nil))))) pss_nil)) (pss_one (ps_for PassesOwn.never rfl (pi_revR (by rfl) T.z_reversed (prg_1 (by rfl) T.z_range (pe_callB (r := rLenQ K) c_len (by rfl) T.z_len PySem.boot_len (pa_cons (pv 6) pa_nil)))) (pg_name (i := 7) sc_MetricTree_path_to.nd rfl (Or.inl rfl)) (pss_one (ps_if (pt_cmpR op_le (pe_g (ok_distance T) (hr.mono (by decide)) pass0S (pa_cons (pe_fldK rfl (pv 0)) (pa_cons (pe_ix (r := rIxT K) ix_tup (pe_ix (r := rIxL K) ix_list (pv 6) (pv 7) (fun _ _ => rfl)) pe_int (fun _ _ => rfl)) (pa_cons (pe_ix (r := rIxT K) ix_tup (pv 1) pe_int (fun _ _ => rfl)) pa_nil)))) (pe_ix (r := rIxT K) ix_tup (pe_ix (r := rIxL K) ix_list (pv 6) (pv 7) (fun _ _ => rfl)) pe_int (fun _ _ => rfl)) (nomark _)) (pss_one (ps_expr (pe_kBM rfl (pe_bm PySem.F.plainAttrs_list PySem.F.slot_list_append PySem.F.type_list_append mt_append (pv 2) (pa_cons (pe_tup (pa_cons (pe_op op_cat (pv 3) (pe_lst (pa_cons (pe_tup (pa_cons (pv 4) (pa_cons (pv 7) pa_nil))) pa_nil))) (pa_cons (pe_ix (r := rIxT K) ix_tup (pe_ix (r := rIxL K) ix_list (pv 6) (pv 7) (fun _ _ => rfl)) pe_int (fun _ _ => rfl)) pa_nil))) pa_nil))))) pss_nil)))))))))
      (pss_one (ps_ret (pe_tup (pa_cons (pe_lst pa_nil) (pa_cons (pe_fldK rfl (pv 0)) pa_nil))))))), ?_⟩
    walk_at "cx"
    walk_at "rd"
    refine x_newL fun pl H1 hpl k1 e1 => ?_
    have ho1 := k1.get ho id
    walk_at "rd"
    refine x_newT fun t2 H2 ht2 k2 e2 => ?_
    walk_at "rd"
    refine x_newL fun wl H3 hwl k3 e3 => ?_
    have k03 : Kp F0 H H3 := (k1.trans k2 fun _ z => z.elim).trans k3 fun _ z => z.elim
    have e13 := k3.get (k2.get e1 id) id
    have npw : pl ≠ wl := ne_of_none (k2.get e1 id) hwl
    have fwl : H wl = none := k1.free (k2.free hwl id) id
    walk_at "rd"
    refine x_wh (fun mm σ H' => ∃ st wvs u3 u4 u5 u6 u7, σ = [some (.ref mt), some (.ref tv), some (.ref wl), u3, u4, u5, u6, u7] ∧ H' wl = some (.lst wvs) ∧ Paired (StV K H wl H') wvs st.reverse ∧ Fd D met (gpg s) it st path m es mm ∧ Kp F0 H H') ?_ ?_
    · exact ⟨fuel, [([], r)], _, none, none, none, none, none, rfl, e3, .cons ⟨t2, pl, [], rfl, k3.sqT (SqT.of e2), hpl, npw, e13, .nil⟩ .nil, fd0, k03⟩
    · rintro mm σ H4 ⟨st, wvs, u3, u4, u5, u6, u7, rfl, ewl, pst, fd4, k4⟩
      obtain ⟨pa, n, st', rfl⟩ := fd4.ne
      rw [List.reverse_cons] at pst
      obtain ⟨wvs', xv, rfl, pst', t5, pl5, pvs5, rfl, ht5, fpl5, npl5, epl5, hpv5⟩ := pr_snoc pst
      have lw := pst'.length
      have ho4 := k4.get ho id
      walk_at "rd"
      rw [decide_eq_true (show ((wvs' ++ [V.ref t5]).length : Int) > 0 by rw [List.length_append, List.length_singleton]; omega)]
      obtain ⟨kd, its, dec, cur⟩ := fd4.cur
      walk_at "rd"
      refine ⟨_, fun σ' H' z => z, ?_⟩
      walk_at "rd"
      refine ⟨wl, wvs' ++ [.ref t5], .ref t5, rfl, rfl, ewl, by simp, ?_⟩
      rw [List.dropLast_concat]
      have k5 : Kp (F1 wl) H4 (upd H4 wl (.lst wvs')) := Kp.put ewl id
      have e5 : (upd H4 wl (.lst wvs') : Hp) wl = some (.lst wvs') := upd_same
      generalize upd H4 wl (.lst wvs') = H5 at k5 e5 ⊢
      have ht55 := k5.sqT ht5
      have k05 : Kp F0 H H5 := fun x o hx _ => k5.get (k4.get hx id) (ne_of_none hx fwl)
      have ho5 := k05.get ho id
      have epl55 := k5.get epl5 npl5
      have hpv55 := hpv5.mono fun _ _ z => z.kp k5
      have pst55 := pst'.mono fun _ _ z => z.kp k5
      walk_at "rd"
      refine ⟨mt, p, q, r, D, met, n, kd, its, O, Od, s, rfl, hk.kp k05 id, hP.same k05, dec, hD, fun H6 t6 l6 ws6 k6 e6 fl6 el6 hv6 => ?_⟩
      have k56 : Kp (F1 wl) H5 H6 := k6.mono fun _ z => z.elim
      have k06 := k05.trans k6 fun _ z => z.elim
      have ho6 := k06.get ho id
      have htv6 := k06.sqT htv
      have hqv6 := k06.sqT hqv
      have ewl6 := k6.get e5 id
      have epl6 := k6.get epl55 id
      have hpv6 := hpv55.mono fun _ _ z => z.kp k6
      have pst6 := pst55.mono fun _ _ z => z.kp k56
      have lw6 := hv6.length
      walk_at "rd"
      rcases cur with ⟨rfl, hin, rfl, rfl, rfl⟩ | ⟨rfl, hin, k', rfl, fd'⟩ | ⟨rfl, lpa, lst, k', rfl, fd'⟩
      · rw [decide_eq_true rfl]
        walk_at "rd"
        refine x_inM (hv.kp k06) (SqL.of el6) hv6 ?_
        rw [decide_eq_true hin]
        walk_at "rd"
        refine x_newT fun t7 H7 ht7 k7 e7 => ?_
        exact k H7 t7 pl5 pvs5 (k06.trans k7 fun _ z => z.elim) (SqT.of e7) fpl5 (k7.get epl6 id) (hpv6.mono fun _ _ z => z.kp k7)
      · rw [decide_eq_true rfl]
        walk_at "rd"
        refine x_inM (hv.kp k06) (SqL.of el6) hv6 ?_
        rw [decide_eq_false hin]
        walk_at "rd"
        exact ⟨k', Nat.lt_succ_self _, st', wvs', _, _, _, _, _, rfl, ewl6, pst6, fd', k06⟩
      · rw [decide_eq_false (by decide)]
        have lits := dec.lz
        have iok := dec.ok
        walk_at "rd"
        refine x_revr ?_
        walk_at "rd"
        rw [lw6]
        refine ⟨by decide, by decide, by omega, by omega, ?_⟩
        rw [Int.sub_zero, Int.toNat_natCast]
        refine wfor Wk.rgc (fun i σ H' => ∃ wvs u7, σ = [some (.ref mt), some (.ref tv), some (.ref wl), some (.ref pl5), some (.int n), some (.int 4), some (.ref l6), u7] ∧ H' wl = some (.lst wvs) ∧ Paired (StV K H wl H') wvs (cnd met it.p pa n (its.length - i) (its.drop (its.length - i)) ++ st').reverse ∧ Kp (F1 wl) H6 H')
          ⟨wvs', _, rfl, ewl6, by rw [Nat.sub_zero, List.drop_length]; exact pst6, Kp.refl _⟩ (fun _ _ _ _ => trivial) ?_ ?_
        · rintro i x σ H7 ex ⟨wvs7, u77, rfl, ewl7, pst7, k7⟩
          obtain ⟨hi, rfl⟩ := rvl_at ex
          have nlw : l6 ≠ wl := fun z => by rw [z, e5] at fl6; cases fl6
          have el67 := k7.get el6 nlw
          have nmw : mt ≠ wl := ne_of_none ho fwl
          have ho7 := k7.get ho6 nmw
          have htv7 := k7.sqT htv6
          have hqv7 := k7.sqT hqv6
          have epl7 := k7.get epl6 npl5
          have hpv7 := hpv6.mono fun _ _ z => z.kp k7
          obtain ⟨j, ej⟩ : ∃ j, its.length = i + 1 + j := ⟨its.length - (i + 1), by omega⟩
          have hj : j < its.length := by omega
          have ej1 : its.length - i = j + 1 := by omega
          have ej2 : its.length - (i + 1) = j := by omega
          have ejI : (its.length : Int) - 1 - (i : Int) = (j : Nat) := by omega
          obtain ⟨ch, ech⟩ : ∃ ch, its[j]? = some ch := ⟨_, List.getElem?_eq_getElem hj⟩
          obtain ⟨vc, evc, t8, q8, rfl, ht8, hq8⟩ := pgetr hv6 ech
          have ht87 : SqT K H7 t8 [.ref q8, .int ch.x, .int ch.y] := k7.sqT ht8
          have hq87 := k7.sqT hq8
          have lch := (iok ch (List.mem_of_getElem? ech)).l
          have dr : its.drop j = ch :: its.drop (j + 1) := by rw [List.drop_eq_getElem_cons hj, (List.getElem?_eq_some_iff.mp ech).2]
          have lw7 := pst7.length
          have cl := cnd_len met it.p pa n (its.length - i) (its.drop (its.length - i))
          rw [List.length_drop] at cl
          rw [List.length_reverse, List.length_append] at lw7
          rw [ej2, dr]
          rw [ej1] at pst7
          show _
          rw [ejI]
          walk_at "rd"
          refine x_ixL (v := .ref t8) (SqL.of el67) (atI_at j rfl evc) ?_
          walk_at "rd"
          refine ⟨met, q8, qv, ch.p, it.p, rfl, hq87, hqv7, by omega, by omega, by omega, fun H8 k8 => ?_⟩
          have el68 := k8.get el67 id
          have ht88 := k8.sqT ht87
          walk_at "rd"
          refine x_ixL (v := .ref t8) (SqL.of el68) (atI_at j rfl evc) ?_
          walk_at "rd"
          refine ite_dec (fun e => ?_) fun e => ?_
          · have ec : cnd met it.p pa n j (ch :: its.drop (j + 1)) = (pa ++ [(n, j)], ch.y) :: cnd met it.p pa n (j + 1) (its.drop (j + 1)) := by
              show (if dist met ch.p it.p ≤ ch.x then [(pa ++ [(n, j)], ch.y)] else []) ++ _ = _
              rw [if_pos e]; rfl
            rw [ec]
            walk_at "rd"
            refine x_newT fun t9 H9 ht9 k9 e9 => ?_
            walk_at "rd"
            refine x_newL fun l10 H10 hl10 k10 e10 => ?_
            have lpv : pvs5.length = pa.length := hpv5.length
            have k810 : Kp F0 H8 H10 := k9.trans k10 fun _ z => z.elim
            have epl10 := k810.get (k8.get epl7 id) id
            walk_at "rd"
            refine x_catL epl10 e10 (by rw [List.length_singleton, sizeLine_eq]; omega) fun l11 H11 hl11 k11 e11 => ?_
            have el611 := k11.get (k810.get el68 id) id
            have ht811 := k11.sqT (k810.sqT ht88)
            walk_at "rd"
            refine x_ixL (v := .ref t8) (SqL.of el611) (atI_at j rfl evc) ?_
            walk_at "rd"
            refine x_newT fun t12 H12 ht12 k12 e12 => ?_
            have k712 : Kp F0 H7 H12 := (k8.trans k810 fun _ z => z.elim).trans (k11.trans k12 fun _ z => z.elim) fun _ z => z.elim
            have ewl12 := k712.get ewl7 id
            walk_at "rd"
            refine x_app ewl12 (by omega) fun H13 e13' k13 => ?_
            have nl11 : l11 ≠ wl := fun z => by rw [z, k810.get (k8.get ewl7 id) id] at hl11; cases hl11
            have k713 : Kp (F1 wl) H7 H13 := (k712.mono fun _ z => z.elim).trans k13 fun _ z => .inl z
            refine ⟨_, _, rfl, e13', ?_, k7.trans k713 fun _ z => .inl z⟩
            rw [List.cons_append, List.reverse_cons]
            refine pr_app (pst7.mono fun _ _ z => z.kp k713) (.cons ⟨t12, l11, pvs5 ++ [.ref t9], rfl, k13.sqT (SqT.of e12), ?_, nl11, k13.get (k12.get e11 id) nl11, ?_⟩ .nil)
            · have k610 : Kp (F1 wl) H6 H10 := (k7.trans (k8.mono fun _ z => z.elim) fun _ z => .inl z).trans (k810.mono fun _ z => z.elim) fun _ z => .inl z
              exact Option.eq_none_iff_forall_ne_some.mpr fun o ho' => by
                have := k610.get (k06.get ho' id) (ne_of_none ho' fwl)
                rw [this] at hl11; cases hl11
            · refine pr_app (hpv7.mono fun _ _ z => z.kp k713) (.cons ⟨t9, rfl, ?_⟩ .nil)
              exact k13.sqT (k12.sqT (k11.sqT (k10.sqT (SqT.of e9))))
          · have ec : cnd met it.p pa n j (ch :: its.drop (j + 1)) = cnd met it.p pa n (j + 1) (its.drop (j + 1)) := by
              show (if dist met ch.p it.p ≤ ch.x then [(pa ++ [(n, j)], ch.y)] else []) ++ _ = _
              rw [if_neg e]; rfl
            rw [ec]
            walk_at "rd"
            refine ⟨_, _, rfl, k8.get ewl7 id, pst7.mono fun _ _ z => z.kp (k8.mono fun _ z => z.elim), k7.trans (k8.mono fun _ z => z.elim) fun _ z => .inl z⟩
        · rintro σ H7 ⟨wvs7, u77, rfl, ewl7, pst7, k7⟩
          rw [rvl_len, Nat.sub_self, List.drop_zero] at pst7
          exact ⟨k', Nat.lt_succ_self _, _, wvs7, _, _, _, _, _, rfl, ewl7, pst7, fd', fun x o hx _ => k7.get (k06.get hx id) (ne_of_none hx fwl)⟩
end
/-- an inner root with one child takes over the child's content -/
inductive LwM (D : Nat) (r : Int) : Nat → Int → List Mt → PgS → PgS → Prop
  | done {kd : Int} {its : List Mt} {s : PgS} : ¬ (kd = 4 ∧ its.length = 1) → LwM D r 0 kd its s s
  | step {m : Nat} {kd : Int} {ch : Mt} {its : List Mt} {s s' : PgS} : DecM D (gpg s ch.y) kd its → s.dir.length ≤ 900000 → (gpg (pwr r (pad (encM kd its)) s) 0).length = 256 → LwM D r m kd its (prel ch.y (pwr r (pad (encM kd its)) s)) s' → LwM D r (m + 1) 4 [ch] s s'
/-- pages without items go, from the leaf upwards -/
inductive DlM (D : Nat) : List (Int × Nat) → Int → Int → List Mt → PgS → PgS → Prop
  | stop {path : List (Int × Nat)} {n kd : Int} {its : List Mt} {s : PgS} : (its = [] → path = []) → SvM D kd its s → its.length ≤ 9 → DlM D path n kd its s (pwr n (pad (encM (if its = [] then 3 else kd) its)) s)
  | climb {path : List (Int × Nat)} {pl : Nat} {n kd par : Int} {cs : List Mt} {s s' : PgS} : SvM D kd [] s → DecM D (gpg (prel n s) par) 4 cs → pl < cs.length → DlM D path par 4 (cs.eraseIdx pl) (prel n s) s' → DlM D (path ++ [(par, pl)]) n kd [] s s'
def delM (it : Mt) (es : List Mt) : List Mt := es.filter fun x => !decide (x = it)
section
variable {P : Program} {w : World} {K : PySem.W.Frag} {mg : Str → Option Value} {base : Heap} {c : Cl}
def sp_MetricTree_lower (c : Cl) : Sp := fun vs H Q _ => ∃ (mt p q : Addr) (r : Int) (D m : Nat) (met : Str) (kd : Int) (its : List Mt) (O Od : Addr → Prop) (s s' : PgS), vs = [.ref mt] ∧ MW c H mt p q r D met O Od s ∧ DecM D (gpg s r) kd its ∧ LwM D r m kd its s s' ∧ D ≤ 8 ∧ ∀ H' O', PagAt c H' p q O' Od s' → Stp O O' H H' → Q .non H'
theorem ok_MetricTree_lower (T : Txt K mg c) : GM P w K mg base CX0 6 c.MetricTree "lower" (sp_MetricTree_lower c) := by
  obtain ⟨f, fd, F, gf, gi⟩ := T.f_MetricTree_lower
  obtain ⟨_, mg_INNER⟩ := T.m_INNER
  have tc_MetricTree := T.cl_MetricTree; have tn_MetricTree_pager := T.n_MetricTree_pager; have tn_MetricTree_root := T.n_MetricTree_root; have tn_MetricTree_dimensions := T.n_MetricTree_dimensions; have tn_MetricTree_metric := T.n_MetricTree_metric
  have tc_Pager := T.cl_Pager; have tn_Pager_device := T.n_Pager_device; have tn_Pager_committed := T.n_Pager_committed; have tn_Pager_dirty := T.n_Pager_dirty
  refine ⟨f, fd, ["self"], F.ok sc_MetricTree_lower ?_ (fun cdv A outer s0 H vs Q E hr h => ?_), ⟨gf, gi, F.kp⟩, (F.binds (ps := ["self"]) fun _ _ _ _ _ _ us hl => match us, hl with | [_], _ => rfl)⟩
  · rintro vs H Q E ⟨_, _, _, _, _, _, _, _, _, _, _, _, _, rfl, _⟩
    rfl
  · obtain ⟨mt, p, q, r, D, m, met, kd, its, O, Od, s, s', rfl, W, dec, lw, hD, k⟩ := h
    obtain ⟨dx, ho⟩ := W.ka.o
    refine ⟨_, (pss_cons (ps_asg (pe_gm T.cl_MetricTree (ok_MetricTree_load T) (pv 0) (hr.mono (by decide)) pass0S (pa_cons (pe_fldK rfl (pv 0)) pa_nil)) (pg_kT rfl (pg_tup (n := 2) rfl (pgs_cons (pg_name (i := 1) sc_MetricTree_lower.nd rfl (Or.inl rfl)) (pgs_cons (pg_name (i := 2) sc_MetricTree_lower.nd rfl (Or.inl rfl)) pgs_nil)))))
      (pss_one (ps_while PassesOwn.never (PW.pt (pw_and (pt_cmpR op_eq (pv 1) (pe_glob (v := .int 4) rfl mg_INNER ⟨_, rfl⟩) (nomark _)) (pw_and1 (pt_cmpR op_eq (pe_callB (r := rLenQ K) c_len (by rfl) T.z_len PySem.boot_len (pa_cons (pv 2) pa_nil)) pe_int (nomark _))))) (pss_cons (ps_set (i := 3) sc_MetricTree_lower.nd rfl (Or.inl rfl) (pe_ix (r := rIxT K) ix_tup (pe_ix (r := rIxL K) ix_list (pv 2) pe_int (fun _ _ => rfl)) pe_int (fun _ _ => rfl)))
      (pss_cons (ps_asg (pe_gm T.cl_MetricTree (ok_MetricTree_load T) (pv 0) (hr.mono (by decide)) pass0S (pa_cons (pv 3) pa_nil)) (pg_kT rfl (pg_tup (n := 2) rfl (pgs_cons (pg_name (i := 1) sc_MetricTree_lower.nd rfl (Or.inl rfl)) (pgs_cons (pg_name (i := 2) sc_MetricTree_lower.nd rfl (Or.inl rfl)) pgs_nil)))))
      (pss_cons (ps_expr (pe_gm T.cl_MetricTree (ok_MetricTree_store T) (pv 0) (hr.mono (by decide)) pass0S (pa_cons (pe_fldK rfl (pv 0)) (pa_cons (pv 1) (pa_cons (pv 2) pa_nil)))))
      (pss_one (ps_expr (pe_gm T.cl_Pager (ok_Pager_release T) (pe_fldK rfl (pv 0)) (hr.mono (by decide)) pass0S (pa_cons (pv 3) pa_nil)))))))))), ?_⟩
    walk_at "cx"
    walk_at "rd"
    refine ⟨mt, p, q, r, D, met, r, kd, its, O, Od, s, rfl, W.ka, W.pg, dec, hD, fun H1 t1 l1 ws1 k1 e1 f1 el1 hv1 => ?_⟩
    walk_at "rd"
    refine x_wh (fun m σ H' => ∃ kd its l ws O' s1 u, σ = [some (.ref mt), some (.int kd), some (.ref l), u] ∧ MW c H' mt p q r D met O' Od s1 ∧ Stp O O' H H' ∧ H' l = some (.lst ws) ∧ MtVs K H' kd ws its ∧ ¬ O' l ∧ (kd = 3 ∨ kd = 4) ∧ LwM D r m kd its s1 s') ?_ ?_
    · exact ⟨m, kd, its, l1, ws1, O, s, none, rfl, W.pure k1, Stp.pure k1, el1, hv1, W.pg.fresh f1, dec.kk, lw⟩
    · rintro m σ H2 ⟨kd, its, l, ws, O2, s1, u, rfl, W2, t2, el, hv, nl, kk, lw⟩
      have lws := hv.length
      obtain ⟨dx2, ho2⟩ := W2.ka.o
      walk_at "rd"
      cases lw with
      | done hn =>
        rcases kk with rfl | rfl
        · rw [decide_eq_false (by decide)]
          walk_at "rd"
          exact k H2 O2 W2.pg t2
        · rw [decide_eq_true rfl]
          walk_at "rd"
          rw [decide_eq_false (by intro z; exact hn ⟨rfl, by omega⟩)]
          walk_at "rd"
          exact k H2 O2 W2.pg t2
      | step dc ds z0 lw' =>
        rename_i m' kd' ch its'
        rw [decide_eq_true rfl]
        walk_at "rd"
        rw [decide_eq_true (by rw [lws]; rfl)]
        walk_at "rd"
        refine ⟨_, fun σ' H' z => ⟨m', Nat.lt_succ_self _, z⟩, ?_⟩
        cases hv with
        | cons hc hn =>
          cases hn
          rename_i v
          obtain ⟨tc, qc, rfl, htc, hqc⟩ := hc
          have htc' : SqT K H2 tc [.ref qc, .int ch.x, .int ch.y] := htc
          walk_at "rd"
          refine ⟨mt, p, q, r, D, met, ch.y, kd', its', O2, Od, s1, rfl, W2.ka, W2.pg, dc, hD, fun H3 t3 l3 ws3 k3 e3 f3 el3 hv3 => ?_⟩
          have W3 := W2.pure k3
          have ho3 := k3.get ho2 id
          have nl3 := W2.pg.fresh f3
          have oki := dc.ok
          walk_at "rd"
          refine ⟨mt, p, q, r, D, met, r, kd', l3, ws3, its', O2, Od, s1, rfl, W3.ka, W3.pg, el3, hv3, fun it hi => by have := (oki it hi).l; omega, dc.kk, dc.lz, by omega, fun H4 O4 P4 t4 => ?_⟩
          have W4 := W3.pager P4 t4
          have ho4 := t4.kp.get ho3 W3.nk
          have el4 := t4.kp.get el3 nl3
          have nl4 := t4.kp0 el3 nl3
          obtain ⟨⟨dy, a1, a2, y1, y2, DP⟩, _⟩ := id W4.pg
          have hop := DP.o
          have dl : (pwr r (pad (encM kd' its')) s1).dir.length ≤ s1.dir.length + 1 := aput_len _ _ _
          walk_at "rd"
          refine ⟨p, q, O4, Od, _, ch.y, rfl, W4.pg, by omega, z0, fun H5 O5 P5 t5 => ?_⟩
          have W5 := W4.pager P5 t5
          walk_at "rd"
          exact ⟨kd', its', l3, ws3, O5, _, _, rfl, W5, ((t2.trans (Stp.pure k3)).trans t4).trans t5, t5.kp.get el4 nl4, hv3.mono fun _ _ z => (z.kp t4.kp).kp t5.kp, t5.kp0 el4 nl4, dc.kk, lw'⟩
def sp_MetricTree_delete (c : Cl) (K : PySem.W.Frag) : Sp := fun vs H Q _ => ∃ (mt p q : Addr) (r : Int) (D mm : Nat) (met : Str) (v : V) (it : Mt) (m kd : Int) (path : List (Int × Nat)) (es its : List Mt) (k : Nat) (O Od : Addr → Prop) (s s1 s' : PgS), vs = [.ref mt, v] ∧ MW c H mt p q r D met O Od s ∧ MtV K H 3 v it ∧ it.p.length = D ∧ 0 < D ∧ D ≤ 8 ∧ Fd D met (gpg s) it [([], r)] path m es k ∧ DecM D (gpg s m) 3 es ∧ DlM D path m 3 (delM it es) s s1 ∧ DecM D (gpg s1 r) kd its ∧ LwM D r mm kd its s1 s' ∧
  ∀ H' O', PagAt c H' p q O' Od s' → Stp O O' H H' → Q .non H'
theorem ok_MetricTree_delete (T : Txt K mg c) : GM P w K mg base CX0 7 c.MetricTree "delete" (sp_MetricTree_delete c K) := by
  obtain ⟨f, fd, F, gf, gi⟩ := T.f_MetricTree_delete
  obtain ⟨_, mg_LEAF⟩ := T.m_LEAF
  have tc_MetricTree := T.cl_MetricTree; have tn_MetricTree_pager := T.n_MetricTree_pager; have tn_MetricTree_root := T.n_MetricTree_root; have tn_MetricTree_dimensions := T.n_MetricTree_dimensions; have tn_MetricTree_metric := T.n_MetricTree_metric
  have tc_Pager := T.cl_Pager; have tn_Pager_device := T.n_Pager_device; have tn_Pager_committed := T.n_Pager_committed; have tn_Pager_dirty := T.n_Pager_dirty
  refine ⟨f, fd, ["self", "item"], F.ok sc_MetricTree_delete ?_ (fun cdv A outer s0 H vs Q E hr h => ?_), ⟨gf, gi, F.kp⟩, (F.binds (ps := ["self", "item"]) fun _ _ _ _ _ _ us hl => match us, hl with | [_, _], _ => rfl)⟩
  · rintro vs H Q E ⟨_, _, _, _, _, _, _, _, _, _, _, _, _, _, _, _, _, _, _, _, rfl, _⟩
    rfl
  · obtain ⟨mt, p, q, r, D, mm, met, v, it, m, kd0, path, es, its0, fuel, O, Od, s, s1, s', rfl, W, hv, lit, D0, hD, fd0, decl, dl, dec, lw, k⟩ := h
    obtain ⟨dx, ho⟩ := W.ka.o
    obtain ⟨tv, qv, ev, _, _⟩ := id hv
    subst ev
    refine ⟨_, (pss_cons (ps_asg (pe_gm T.cl_MetricTree (ok_MetricTree_path_to T) (pv 0) (hr.mono (by decide)) pass0S (pa_cons (pv 1) pa_nil)) (pg_kT rfl (pg_tup (n := 2) rfl (pgs_cons (pg_name (i := 2) sc_MetricTree_delete.nd rfl (Or.inl rfl)) (pgs_cons (pg_name (i := 3) sc_MetricTree_delete.nd rfl (Or.inl rfl)) pgs_nil)))))
      (pss_cons (ps_asg (pe_gm T.cl_MetricTree (ok_MetricTree_load T) (pv 0) (hr.mono (by decide)) pass0S (pa_cons (pv 3) pa_nil)) (pg_kT rfl (pg_tup (n := 2) rfl (pgs_cons (pg_name (i := 4) sc_MetricTree_delete.nd rfl (Or.inl rfl)) (pgs_cons (pg_name (i := 5) sc_MetricTree_delete.nd rfl (Or.inl rfl)) pgs_nil)))))
      (pss_cons (ps_setLc (i := 5) (own := [("other", 7)]) (g := (gName 7)) rfl sc_MetricTree_delete.nd rfl rfl (sw_true rfl rfl rfl (by decide +kernel)) (pi_listK rfl (pv 5)) (blkOk_by (N := ["self", "item", "path", "number", "kind", "items", "place", "other"]) (sc := defScope s_MetricTree_delete) (by decide +kernel)) (fun _ _ _ _ _ => (pg_name (i := 7) sc_MetricTree_delete.nd rfl (Or.inl rfl))) (fun _ _ _ _ _ => (pts_one (pt_cmpR (r := rNeD K) (op_neD hr.units) (pv 7) (pv 1) (nomark _)))) (fun _ _ _ _ _ => (pv 7)))
      (pss_cons (ps_while PassesOwn.never (PW.pt (pw_and (pt_cmpR op_eq (pe_callB (r := rLenQ K) c_len (by rfl) T.z_len PySem.boot_len (pa_cons (pv 5) pa_nil)) pe_int (nomark _)) (pw_and1 (pt_cmpR op_gt (pe_callB (r := rLenQ K) c_len (by rfl) T.z_len PySem.boot_len (pa_cons (pv 2) pa_nil)) pe_int (nomark _))))) (pss_cons (ps_expr (pe_gm T.cl_Pager (ok_Pager_release T) (pe_fldK rfl (pv 0)) (hr.mono (by decide)) pass0S (pa_cons (pv 3) pa_nil)))
      (pss_cons (ps_asg (pe_kBM0 rfl (pe_bm0 PySem.F.plainAttrs_list PySem.F.slot_list_pop PySem.F.type_list_pop mt_pop (pv 2))) (pg_kT rfl (pg_tup (n := 2) rfl (pgs_cons (pg_name (i := 3) sc_MetricTree_delete.nd rfl (Or.inl rfl)) (pgs_cons (pg_name (i := 6) sc_MetricTree_delete.nd rfl (Or.inl rfl)) pgs_nil)))))
      (pss_cons (ps_asg (pe_gm T.cl_MetricTree (ok_MetricTree_load T) (pv 0) (hr.mono (by decide)) pass0S (pa_cons (pv 3) pa_nil)) (pg_kT rfl (pg_tup (n := 2) rfl (pgs_cons (pg_name (i := 4) sc_MetricTree_delete.nd rfl (Or.inl rfl)) (pgs_cons (pg_name (i := 5) sc_MetricTree_delete.nd rfl (Or.inl rfl)) pgs_nil)))))
      (pss_one (ps_expr (pe_kBM rfl (pe_bm PySem.F.plainAttrs_list PySem.F.slot_list_pop PySem.F.type_list_pop mt_popAt (pv 5) (pa_cons (pv 6) pa_nil)))))))))
      (C8.pss_cut (ps_if (pt_cmpR op_eq (pe_callB (r := rLenQ K) c_len (by rfl) T.z_len PySem.boot_len (pa_cons (pv 5) pa_nil)) pe_int (nomark _)) (pss_one (ps_set (i := 4) sc_MetricTree_delete.nd rfl (Or.inl rfl) (pe_glob (v := .int 3) rfl mg_LEAF ⟨_, rfl⟩))) pss_nil)
      (pss_cons (ps_expr (pe_gm T.cl_MetricTree (ok_MetricTree_store T) (pv 0) (hr.mono (by decide)) pass0S (pa_cons (pv 3) (pa_cons (pv 4) (pa_cons (pv 5) pa_nil)))))
      (pss_one (ps_expr (pe_gm0 T.cl_MetricTree (ok_MetricTree_lower T) (pv 0) (hr.mono (by decide)) pass0S))))))))), ?_⟩
    walk_at "cx"
    walk_at "rd"
    refine ⟨mt, p, q, r, D, met, _, it, m, path, es, fuel, O, Od, s, rfl, W.ka, W.pg, hv, lit, D0, hD, fd0, fun H1 t1 pl pvs k1 ht1 fpl0 epl1 hpv1 => ?_⟩
    have W1 := W.pure k1
    have ho1 := k1.get ho id
    walk_at "rd"
    refine ⟨mt, p, q, r, D, met, m, 3, es, O, Od, s, rfl, W1.ka, W1.pg, decl, hD, fun H2 t2 l ws k2 e2 fl hl hws => ?_⟩
    have W2 := W1.pure k2
    have lws := hws.length
    have les := decl.lz
    have hv2 := (hv.kp k1).kp k2
    have npl : pl ≠ l := ne_of_none epl1 fl
    walk_at "rd"
    refine wlcH (Wk.list (xs := ws)) F0 (fun D' i acc H' => MtVs K H' 3 acc (delM it (es.take i))) (fun b z => z.elim) (by omega) (fun D' i acc H' _ s => SqL.of (s.get hl id)) (fun _ _ => .nil) (fun D' i acc H' H4 k h => h.mono fun _ _ z => z.kp k) (fun D' i x acc H' R R0 ex hD' hacc pv kp hR hR0 => ?_) (fun z H3 acc hz hz3 pv k3 => ?_)
    · obtain ⟨y, ey, hy⟩ := pgt hws ex
      have tk : es.take (i + 1) = es.take i ++ [y] := by rw [List.take_succ, ey]; rfl
      obtain ⟨t9, q9, ex9, _, _⟩ := id hy
      subst ex9
      walk_at "rd"
      refine ⟨rfl, ?_⟩
      walk_at "rd"
      refine x_neM (hy.kp kp) (hv2.kp kp) ?_
      have ed : delM it (es.take (i + 1)) = delM it (es.take i) ++ (if y = it then [] else [y]) := by
        unfold delM
        rw [tk, List.filter_append, List.filter_cons]
        by_cases q : y = it
        · rw [if_neg (by simp [q]), if_pos q]; rfl
        · rw [if_pos (by simp [q]), if_neg q]; rfl
      by_cases q : y = it
      · rw [decide_eq_true q]
        rw [if_pos q, List.append_nil] at ed
        walk_at "rd"
        exact hR0 H' (Kp.refl _) (by rw [ed]; exact pv)
      · rw [decide_eq_false q]
        rw [if_neg q] at ed
        walk_at "rd"
        exact hR _ H' (Kp.refl _) (by rw [ed]; exact pr_app pv (.cons (hy.kp kp) .nil))
    · rw [lws, List.take_length] at pv
      have k03 : Kp F0 H H3 := (k1.trans k2 fun _ z => z.elim).trans k3 fun _ z => z.elim
      have W3 := W2.pure k3
      have fz : ¬ O z := W2.pg.fresh hz
      have epl3 := k3.get (k2.get epl1 id) id
      walk_at "rd"
      refine x_wh (fun mm σ H' => ∃ path n l ws its kd pvs O' s2 u6, mm = path.length ∧ σ = [some (.ref mt), some (.ref tv), some (.ref pl), some (.int n), some (.int kd), some (.ref l), u6, none] ∧ MW c H' mt p q r D met O' Od s2 ∧ Stp O O' H H' ∧ H' pl = some (.lst pvs) ∧ Paired (PthV K H') pvs path ∧ ¬ O' pl ∧ H' l = some (.lst ws) ∧ MtVs K H' kd ws its ∧ ¬ O' l ∧ DlM D path n kd its s2 s1) ?_ ?_
      · exact ⟨path.length, path, m, z, acc, _, 3, pvs, O, s, none, rfl, rfl, W3, Stp.pure k03, epl3, (hpv1.mono fun _ _ z => (z.kp k2).kp k3), W.pg.fresh fpl0, hz3, pv, fz, dl⟩
      · rintro mm' σ H4 ⟨path', n, l', ws', its, kd, pvs', O4, s2, u6, rfl, rfl, W4, t4, hpl4, hpv4, npl4, hl4, hv4, nl4, dl4⟩
        have lp4 := hpv4.length
        have lw4 := hv4.length
        walk_at "rd"
        rw [lw4]
        cases dl4 with
        | stop hst si lf =>
          obtain ⟨dx4, ho4⟩ := W4.ka.o
          have sl := si.l
          have ds := si.ds
          have kk := si.kk
          refine if_both ?_ fun hb rest => ?_
          · walk_at "rd"
            refine x_cut (fun σ' H' => H' = H4 ∧ σ' = [some (.ref mt), some (.ref tv), some (.ref pl), some (.int n), some (.int (if its = [] then 3 else kd)), some (.ref l'), u6, none]) ?_ ?_
            · walk_at "rd"
              rw [lw4]
              refine ite_dec (fun e => ?_) fun e => ?_
              · have e' : its = [] := List.eq_nil_of_length_eq_zero (by omega)
                walk_at "rd"
                exact ⟨rfl, by rw [if_pos e']; rfl⟩
              · have e' : ¬ its = [] := fun z => e (by rw [z]; rfl)
                exact ⟨rfl, by rw [if_neg e']⟩
            · rintro σ' H' ⟨rfl, rfl⟩
              have kk2 : (if its = [] then (3 : Int) else kd) = 3 ∨ (if its = [] then (3 : Int) else kd) = 4 := by
                split
                · exact .inl rfl
                · exact kk
              have hv4' : MtVs K H' (if its = [] then 3 else kd) ws' its := by
                split
                · rename_i q
                  rw [q] at hv4 ⊢
                  cases hv4
                  exact .nil
                · exact hv4
              walk_at "rd"
              refine ⟨mt, p, q, r, D, met, n, (if its = [] then 3 else kd), l', ws', its, O4, Od, s2, rfl, W4.ka, W4.pg, hl4, hv4', fun it hi => by have := sl it hi; omega, kk2, lf, by omega, fun H5 O5 P5 t5 => ?_⟩
              have W5 := W4.pager P5 t5
              obtain ⟨dx5, ho5⟩ := W5.ka.o
              walk_at "rd"
              refine ⟨mt, p, q, r, D, mm, met, kd0, its0, O5, Od, _, s', rfl, W5, dec, lw, hD, fun H6 O6 P6 t6 => ?_⟩
              walk_at "rd"
              exact k H6 O6 P6 ((t4.trans t5).trans t6)
          · have e' : its = [] := List.eq_nil_of_length_eq_zero (by have := of_decide_eq_true hb; omega)
            have ep := hst e'
            rw [ep] at lp4
            walk_at "rd"
            rw [decide_eq_false (by rw [lp4]; decide)]
            exact rest
        | climb si dc pcl dl5 =>
          rename_i path5 pc par cs
          obtain ⟨dx4, ho4⟩ := W4.ka.o
          obtain ⟨⟨dy, a1, a2, y1, y2, DP⟩, _⟩ := id W4.pg
          have hop := DP.o
          obtain ⟨pv5, xv, epv, hpv5, t9, ext, ht9⟩ := pr_snoc hpv4
          rw [ext] at epv
          rw [epv] at hpl4
          rw [decide_eq_true (by rfl)]
          walk_at "rd"
          rw [decide_eq_true (by rw [List.length_append, List.length_singleton]; omega)]
          walk_at "rd"
          refine ⟨_, fun σ' H' z => ⟨path5.length, by rw [List.length_append, List.length_singleton]; omega, z⟩, ?_⟩
          walk_at "rd"
          refine ⟨p, q, O4, Od, s2, n, rfl, W4.pg, by have := si.ds; omega, si.z0, fun H5 O5 P5 t5 => ?_⟩
          have W5 := W4.pager P5 t5
          have hpl5 := t5.kp.get hpl4 npl4
          have npl5 := t5.kp0 hpl4 npl4
          have ht95 := t5.kp.sqT ht9
          walk_at "rd"
          refine ⟨pl, pv5 ++ [.ref t9], .ref t9, rfl, rfl, hpl5, by simp, ?_⟩
          rw [List.dropLast_concat]
          have k6 : Kp (F1 pl) H5 (upd H5 pl (.lst pv5)) := Kp.put hpl5 id
          have e6 : (upd H5 pl (.lst pv5) : Hp) pl = some (.lst pv5) := upd_same
          generalize upd H5 pl (.lst pv5) = H6 at k6 e6 ⊢
          have nkp : mt ≠ pl := fun z => by rw [z, fpl0] at ho; cases ho
          have W6 := W5.off k6 (fun b z => by rw [z]; exact npl5) nkp
          obtain ⟨dx6, ho6⟩ := W6.ka.o
          have ht96 := k6.sqT ht95
          walk_at "rd"
          refine ⟨mt, p, q, r, D, met, _, 4, cs, O5, Od, _, rfl, W6.ka, W6.pg, dc, hD, fun H7 t7 l7 ws7 k7 e7 f7 el7 hv7 => ?_⟩
          have W7 := W6.pure k7
          have lw7 := hv7.length
          walk_at "rd"
          obtain ⟨y, ey⟩ : ∃ y, ws7[pc]? = some y := ⟨_, List.getElem?_eq_getElem (by omega)⟩
          have lcs := dc.lz
          refine ⟨l7, ws7, (pc : Nat), pc, y, rfl, rfl, el7, by omega, by omega, seqIx (by omega), ey, ?_⟩
          have k8 : Kp (F1 l7) H7 (upd H7 l7 (.lst (ws7.eraseIdx pc))) := Kp.put el7 id
          have e8 : (upd H7 l7 (.lst (ws7.eraseIdx pc)) : Hp) l7 = some (.lst (ws7.eraseIdx pc)) := upd_same
          generalize upd H7 l7 (.lst (ws7.eraseIdx pc)) = H8 at k8 e8 ⊢
          have nl7 := W6.pg.fresh f7
          have W8 := W7.off k8 (fun b z => by rw [z]; exact nl7) (ne_of_none ho6 f7)
          have np7 : pl ≠ l7 := ne_of_none e6 f7
          have k68 : Kp F0 H6 H8 := fun x o hx _ => k8.get (k7.get hx id) (ne_of_none hx f7)
          have t8 : Stp O O5 H H8 := ((t4.trans t5).off1 k6 fpl0).trans (Stp.pure k68)
          walk_at "rd"
          exact ⟨path5, par, l7, _, _, 4, pv5, O5, _, _, rfl, rfl, W8, t8, k8.get (k7.get e6 id) np7, hpv5.mono fun _ _ z => (((z.kp t5.kp).kp k6).kp k7).kp k8, npl5, e8, pr_erase _ (hv7.mono fun _ _ z => z.kp k8), nl7, dl5⟩
end
/-! ### distances of points are small -/
theorem sum_le {l : List Int} {B : Int} (h : ∀ x ∈ l, x ≤ B) : l.sum ≤ B * (l.length : Int) := by
  induction l with
  | nil => simp
  | cons x l ih =>
    have h1 := h x (by simp)
    have h2 := ih fun y hy => h y (List.mem_cons_of_mem _ hy)
    rw [List.sum_cons, List.length_cons]
    have e : B * ((l.length + 1 : Nat) : Int) = B * (l.length : Int) + B := by push_cast; rw [Int.mul_add, Int.mul_one]
    omega
theorem mx_le {l : List Int} {B : Int} (h0 : 0 ≤ B) (h : ∀ x ∈ l, x ≤ B) : mx l ≤ B := by
  induction l with
  | nil => exact h0
  | cons x l ih =>
    have h1 := h x (by simp)
    have h2 := ih fun y hy => h y (List.mem_cons_of_mem _ hy)
    show max x (mx l) ≤ B
    omega
theorem diffs_le {a b : List Int} (ha : Crd a) (hb : Crd b) : ∀ x ∈ diffs a b, x ≤ 65535 := by
  induction a generalizing b with
  | nil => intro x hx; cases b <;> cases hx
  | cons u a ih =>
    cases b with
    | nil => intro x hx; cases hx
    | cons v b =>
      intro x hx
      have h1 := ha u (by simp)
      have h2 := hb v (by simp)
      rcases List.mem_cons.mp (show x ∈ gap u v :: diffs a b from hx) with rfl | hx
      · unfold gap; split <;> omega
      · exact ih (fun y hy => ha y (List.mem_cons_of_mem _ hy)) (fun y hy => hb y (List.mem_cons_of_mem _ hy)) x hx
theorem dist_le {m : Str} {a b : List Int} {D : Nat} (ha : Crd a) (hb : Crd b) (la : a.length = D) (lb : b.length = D) (hD : D ≤ 8) : dist m a b ≤ 524280 := by
  have dl : (diffs a b).length = D := by rw [diffs_len (by omega)]; exact la
  have h := diffs_le ha hb
  unfold dist
  split
  · have := sum_le h; omega
  · split
    · have := mx_le (by decide) h; omega
    · have h2 : ∀ x ∈ (diffs a b).map pos1, x ≤ 1 := fun x hx => by
        obtain ⟨y, _, rfl⟩ := List.mem_map.mp hx
        unfold pos1; split <;> omega
      have := sum_le h2
      rw [List.length_map] at this
      omega
/-! ### a metric tree over its pages -/
abbrev MR := Int → List Int → List Mt → Prop
structure Ball (m : Str) (c : Mt) (B : Int) (es : List Mt) : Prop where
  ne : es ≠ []
  b : c.x ≤ B
  c : ∀ e ∈ es, dist m c.p e.p ≤ c.x
def MSeg (R : MR) (m : Str) (B : Int) : List Mt → List Int → List Mt → Prop
  | [], ps, es => ps = [] ∧ es = []
  | c :: cs, ps, es => ∃ p1 p2 e1 e2, ps = p1 ++ p2 ∧ es = e1 ++ e2 ∧ Ball m c B e1 ∧ R c.y p1 e1 ∧ MSeg R m B cs p2 e2
def MgR (D : Nat) (v : Int → List Int) (C : Int → List Mt → List Int → List Mt → Prop) : MR := fun n ps es => ∃ kd its ps', ps = n :: ps' ∧ DecM D (v n) kd its ∧ C kd its ps' es
def MTc (D : Nat) (m : Str) (v : Int → List Int) : Nat → Int → List Mt → List Int → List Mt → Prop
  | 0, kd, its, ps, es => kd = 3 ∧ ps = [] ∧ es = its
  | h + 1, kd, its, ps, es => kd = 4 ∧ its ≠ [] ∧ MSeg (MgR D v (MTc D m v h)) m (524280 * ((h : Int) + 1)) its ps es
def MT (D : Nat) (m : Str) (v : Int → List Int) (h : Nat) : MR := MgR D v (MTc D m v h)
theorem MSeg.map {R R' : MR} {m : Str} {B : Int} : ∀ {cs : List Mt} {ps : List Int} {es : List Mt}, (∀ n p e, (∀ x ∈ p, x ∈ ps) → R n p e → R' n p e) → MSeg R m B cs ps es → MSeg R' m B cs ps es
  | [], _, _, _, h => h
  | c :: cs, _, _, k, h => by
    obtain ⟨p1, p2, e1, e2, rfl, rfl, bl, r, s⟩ := h
    exact ⟨p1, p2, e1, e2, rfl, rfl, bl, k _ _ _ (fun x hx => by simp [hx]) r, s.map fun n p e hp => k n p e fun x hx => by simp [hp x hx]⟩
theorem MTc.congr {D : Nat} {m : Str} {v v' : Int → List Int} : ∀ {h : Nat} {kd : Int} {its : List Mt} {ps : List Int} {es : List Mt}, (∀ x ∈ ps, v' x = v x) → MTc D m v h kd its ps es → MTc D m v' h kd its ps es
  | 0, _, _, _, _, _, h => h
  | h + 1, _, _, ps, _, e, hh => by
    obtain ⟨k, n, s⟩ := hh
    refine ⟨k, n, s.map fun n p es hp r => ?_⟩
    obtain ⟨kd, its, ps', rfl, d, c⟩ := r
    exact ⟨kd, its, ps', rfl, by rw [e n (hp n (by simp))]; exact d, MTc.congr (fun x hx => e x (hp x (by simp [hx]))) c⟩
theorem MT.congr {D : Nat} {m : Str} {v v' : Int → List Int} {h : Nat} {n : Int} {ps : List Int} {es : List Mt} (e : ∀ x ∈ ps, v' x = v x) (r : MT D m v h n ps es) : MT D m v' h n ps es := by
  obtain ⟨kd, its, ps', rfl, d, c⟩ := r
  exact ⟨kd, its, ps', rfl, by rw [e n (by simp)]; exact d, MTc.congr (fun x hx => e x (by simp [hx])) c⟩
theorem MSeg.split {R : MR} {m : Str} {B : Int} : ∀ {l r : List Mt} {ps : List Int} {es : List Mt}, MSeg R m B (l ++ r) ps es → ∃ p1 p2 e1 e2, ps = p1 ++ p2 ∧ es = e1 ++ e2 ∧ MSeg R m B l p1 e1 ∧ MSeg R m B r p2 e2
  | [], r, ps, es, h => ⟨[], ps, [], es, rfl, rfl, ⟨rfl, rfl⟩, h⟩
  | c :: l, r, ps, es, h => by
    obtain ⟨p1, p2, e1, e2, rfl, rfl, bl, q, s⟩ := h
    obtain ⟨q1, q2, f1, f2, rfl, rfl, s1, s2⟩ := MSeg.split s
    exact ⟨p1 ++ q1, q2, e1 ++ f1, f2, (List.append_assoc _ _ _).symm, (List.append_assoc _ _ _).symm, ⟨p1, q1, e1, f1, rfl, rfl, bl, q, s1⟩, s2⟩
theorem MSeg.join {R : MR} {m : Str} {B : Int} : ∀ {l r : List Mt} {p1 p2 : List Int} {e1 e2 : List Mt}, MSeg R m B l p1 e1 → MSeg R m B r p2 e2 → MSeg R m B (l ++ r) (p1 ++ p2) (e1 ++ e2)
  | [], r, _, _, _, _, h, g => by
    obtain ⟨rfl, rfl⟩ := h
    exact g
  | c :: l, r, _, p2, _, e2, h, g => by
    obtain ⟨q1, q2, f1, f2, rfl, rfl, bl, q, s⟩ := h
    exact ⟨q1, q2 ++ p2, f1, f2 ++ e2, List.append_assoc _ _ _, List.append_assoc _ _ _, bl, q, MSeg.join s g⟩
theorem MSeg.ne {R : MR} {m : Str} {B : Int} {cs : List Mt} {ps : List Int} {es : List Mt} (h : MSeg R m B cs ps es) (n : cs ≠ []) : es ≠ [] := by
  cases cs with
  | nil => exact absurd rfl n
  | cons c cs =>
    obtain ⟨p1, p2, e1, e2, _, rfl, bl, _⟩ := h
    exact fun z => bl.ne (List.append_eq_nil_iff.mp z).1
theorem MTc.ne {D : Nat} {m : Str} {v : Int → List Int} {h : Nat} {kd : Int} {its : List Mt} {ps : List Int} {es : List Mt} (c : MTc D m v h kd its ps es) (n : its ≠ []) : es ≠ [] := by
  cases h with
  | zero => obtain ⟨_, _, rfl⟩ := c; exact n
  | succ h => exact c.2.2.ne n
theorem MTc.nil {D : Nat} {m : Str} {v : Int → List Int} {h : Nat} {kd : Int} {its : List Mt} {ps : List Int} {es : List Mt} (c : MTc D m v h kd its ps es) (n : es ≠ []) : its ≠ [] := by
  cases h with
  | zero => obtain ⟨_, _, rfl⟩ := c; exact n
  | succ h => exact c.2.1
theorem MTc.kk {D : Nat} {m : Str} {v : Int → List Int} {h : Nat} {kd : Int} {its : List Mt} {ps : List Int} {es : List Mt} (c : MTc D m v h kd its ps es) : kd = 3 ∨ kd = 4 := by
  cases h with
  | zero => exact .inl c.1
  | succ h => exact .inr c.1
theorem MSeg.ok {D : Nat} {R : MR} {m : Str} {B : Int} (hR : ∀ n ps es, R n ps es → ∀ e ∈ es, MtOk D e) : ∀ {cs : List Mt} {ps : List Int} {es : List Mt}, MSeg R m B cs ps es → ∀ e ∈ es, MtOk D e
  | [], _, _, h => by
    obtain ⟨_, rfl⟩ := h
    exact fun e z => by simp at z
  | c :: cs, ps, es, h => by
    obtain ⟨p1, p2, e1, e2, _, rfl, bl, r, s⟩ := h
    intro e he
    rcases List.mem_append.mp he with q | q
    · exact hR _ _ _ r e q
    · exact MSeg.ok hR s e q
theorem MTc.ok {D : Nat} {m : Str} {v : Int → List Int} : ∀ {h : Nat} {kd : Int} {its : List Mt} {ps : List Int} {es : List Mt}, MTc D m v h kd its ps es → (∀ it ∈ its, MtOk D it) → ∀ e ∈ es, MtOk D e
  | 0, _, _, _, _, h, k => by
    obtain ⟨rfl, _, rfl⟩ := h
    exact k
  | h + 1, _, _, _, _, hh, _ => by
    obtain ⟨_, _, s⟩ := hh
    exact MSeg.ok (fun n ps es r => by
      obtain ⟨kd, its, ps', _, d, c⟩ := r
      exact MTc.ok c d.ok) s
theorem MT.ok {D : Nat} {m : Str} {v : Int → List Int} {h : Nat} {n : Int} {ps : List Int} {es : List Mt} (r : MT D m v h n ps es) : ∀ e ∈ es, MtOk D e := by
  obtain ⟨kd, its, ps', _, d, c⟩ := r
  exact MTc.ok c d.ok
/-! ### radii cover -/
theorem fold_max {l : List Mt} {g : Mt → Int} : ∀ {a : Int}, a ≤ l.foldl (fun r it => max r (g it)) a ∧ (∀ it ∈ l, g it ≤ l.foldl (fun r it => max r (g it)) a) ∧ ∀ B, a ≤ B → (∀ it ∈ l, g it ≤ B) → l.foldl (fun r it => max r (g it)) a ≤ B := by
  induction l with
  | nil => exact fun {a} => ⟨Int.le_refl _, fun it h => by simp at h, fun B h _ => h⟩
  | cons x l ih =>
    intro a
    obtain ⟨h1, h2, h3⟩ := ih (a := max a (g x))
    rw [List.foldl_cons]
    refine ⟨by omega, fun it hit => ?_, fun B ha hB => ?_⟩
    · rcases List.mem_cons.mp hit with rfl | hit
      · omega
      · exact h2 it hit
    · have := hB x (by simp)
      exact h3 B (by omega) fun it hit => hB it (List.mem_cons_of_mem _ hit)
theorem rad_nn (m : Str) (pv : List Int) (kd : Int) (its : List Mt) : 0 ≤ rad m pv kd its := (fold_max (l := its)).1
theorem rad_ge {m : Str} {pv : List Int} {kd : Int} {its : List Mt} {it : Mt} (h : it ∈ its) : rch m pv kd it ≤ rad m pv kd its := (fold_max (l := its) (a := 0)).2.1 it h
theorem rad_le {m : Str} {pv : List Int} {kd : Int} {its : List Mt} {B : Int} (h0 : 0 ≤ B) (h : ∀ it ∈ its, rch m pv kd it ≤ B) : rad m pv kd its ≤ B := (fold_max (l := its) (a := 0)).2.2 B h0 h
theorem MSeg.cov {D : Nat} {R : MR} {m : Str} {B : Int} {pv : List Int} (lp : pv.length = D) (hR : ∀ n ps es, R n ps es → ∀ e ∈ es, MtOk D e) : ∀ {cs : List Mt} {ps : List Int} {es : List Mt}, (∀ c ∈ cs, MtOk D c) → MSeg R m B cs ps es → ∀ e ∈ es, ∃ c ∈ cs, dist m pv e.p ≤ rch m pv 4 c
  | [], _, _, _, h => by
    obtain ⟨_, rfl⟩ := h
    exact fun e z => by simp at z
  | c :: cs, ps, es, hc, h => by
    obtain ⟨p1, p2, e1, e2, _, rfl, bl, r, s⟩ := h
    intro e he
    rcases List.mem_append.mp he with q | q
    · refine ⟨c, by simp, ?_⟩
      have t := dist_tri (m := m) (a := pv) (b := c.p) (c := e.p) (by rw [lp, (hc c (by simp)).l]) (by rw [(hc c (by simp)).l, (hR _ _ _ r e q).l])
      have := bl.c e q
      unfold rch
      rw [if_pos rfl]; omega
    · obtain ⟨c', h1, h2⟩ := MSeg.cov lp hR (fun x hx => hc x (List.mem_cons_of_mem _ hx)) s e q
      exact ⟨c', List.mem_cons_of_mem _ h1, h2⟩
theorem MSeg.bd {R : MR} {m : Str} {B : Int} : ∀ {cs : List Mt} {ps : List Int} {es : List Mt}, MSeg R m B cs ps es → ∀ c ∈ cs, c.x ≤ B
  | [], _, _, _ => fun c z => by simp at z
  | c :: cs, ps, es, h => by
    obtain ⟨p1, p2, e1, e2, _, rfl, bl, r, s⟩ := h
    intro x hx
    rcases List.mem_cons.mp hx with rfl | hx
    · exact bl.b
    · exact MSeg.bd s x hx
/-- the radius that is computed covers what is below, and is small -/
theorem MTc.ball {D : Nat} {m : Str} {v : Int → List Int} {h : Nat} {kd : Int} {its : List Mt} {ps : List Int} {es : List Mt} {pv : List Int} {y : Int} (c : MTc D m v h kd its ps es) (ok : ∀ it ∈ its, MtOk D it) (ne : its ≠ []) (lp : pv.length = D) (cp : Crd pv) (hD : D ≤ 8) : Ball m ⟨pv, rad m pv kd its, y⟩ (524280 * ((h : Int) + 1)) es := by
  refine ⟨c.ne ne, ?_, fun e he => ?_⟩
  · show rad m pv kd its ≤ _
    refine rad_le (by omega) fun it hit => ?_
    have d := dist_le (m := m) cp (ok it hit).c lp (ok it hit).l hD
    unfold rch
    cases h with
    | zero =>
      obtain ⟨rfl, _, _⟩ := c
      rw [if_neg (by decide)]; omega
    | succ h =>
      obtain ⟨rfl, _, s⟩ := c
      have := s.bd it hit
      rw [if_pos rfl]; omega
  · show dist m pv e.p ≤ rad m pv kd its
    cases h with
    | zero =>
      obtain ⟨rfl, _, rfl⟩ := c
      have := rad_ge (m := m) (pv := pv) (kd := 3) he
      unfold rch at this
      rw [if_neg (by decide)] at this; omega
    | succ h =>
      obtain ⟨rfl, _, s⟩ := c
      obtain ⟨c', h1, h2⟩ := s.cov lp (fun n ps es r => MT.ok (h := h) r) ok e he
      have := rad_ge (m := m) (pv := pv) (kd := 4) h1
      omega
/-! ### two parts of a page -/
def hPk (b : Nat → Bool) (k : Nat) (its : List Mt) : List Mt := ((its.zipIdx k).filter fun q => b q.2).map Prod.fst
theorem hPk_cons (b : Nat → Bool) (k : Nat) (x : Mt) (l : List Mt) : hPk b k (x :: l) = (if b k = true then [x] else []) ++ hPk b (k + 1) l := by
  unfold hPk
  rw [List.zipIdx_cons, List.filter_cons]
  split <;> rfl
theorem MSeg.part {R : MR} {m : Str} {B : Int} (b : Nat → Bool) : ∀ {cs : List Mt} {ps : List Int} {es : List Mt} (k : Nat), MSeg R m B cs ps es → ∃ p1 p2 e1 e2, (p1 ++ p2).Perm ps ∧ (e1 ++ e2).Perm es ∧ MSeg R m B (hPk (fun k => !b k) k cs) p1 e1 ∧ MSeg R m B (hPk b k cs) p2 e2
  | [], _, _, k, h => by
    obtain ⟨rfl, rfl⟩ := h
    exact ⟨[], [], [], [], .refl _, .refl _, ⟨rfl, rfl⟩, ⟨rfl, rfl⟩⟩
  | c :: cs, ps, es, k, h => by
    obtain ⟨q1, q2, f1, f2, rfl, rfl, bl, r, s⟩ := h
    obtain ⟨p1, p2, e1, e2, hp, he, s1, s2⟩ := MSeg.part b (k + 1) s
    rw [hPk_cons, hPk_cons]
    cases hb : b k with
    | true =>
      rw [if_neg (by simp), if_pos rfl]
      refine ⟨p1, q1 ++ p2, e1, f1 ++ e2, ?_, ?_, s1, ⟨q1, p2, f1, e2, rfl, rfl, bl, r, s2⟩⟩
      · rw [← List.append_assoc]
        exact (List.perm_append_comm.append_right p2).trans (by rw [List.append_assoc]; exact hp.append_left q1)
      · rw [← List.append_assoc]
        exact (List.perm_append_comm.append_right e2).trans (by rw [List.append_assoc]; exact he.append_left f1)
    | false =>
      rw [if_pos (by simp), if_neg (by simp)]
      refine ⟨q1 ++ p1, p2, f1 ++ e1, e2, ?_, ?_, ⟨q1, p1, f1, e1, rfl, rfl, bl, r, s1⟩, s2⟩
      · rw [List.append_assoc]; exact hp.append_left q1
      · rw [List.append_assoc]; exact he.append_left f1
theorem MTc.part {D : Nat} {m : Str} {v : Int → List Int} {h : Nat} {kd : Int} {its : List Mt} {ps : List Int} {es : List Mt} (b : Nat → Bool) (c : MTc D m v h kd its ps es) (n1 : hP (fun k => !b k) its ≠ []) (n2 : hP b its ≠ []) :
    ∃ p1 p2 e1 e2, (p1 ++ p2).Perm ps ∧ (e1 ++ e2).Perm es ∧ MTc D m v h kd (hP (fun k => !b k) its) p1 e1 ∧ MTc D m v h kd (hP b its) p2 e2 := by
  cases h with
  | zero =>
    obtain ⟨rfl, rfl, rfl⟩ := c
    exact ⟨[], [], _, _, .refl _, hP_perm b _, ⟨rfl, rfl, rfl⟩, ⟨rfl, rfl, rfl⟩⟩
  | succ h =>
    obtain ⟨rfl, _, s⟩ := c
    obtain ⟨p1, p2, e1, e2, hp, he, s1, s2⟩ := s.part b 0
    exact ⟨p1, p2, e1, e2, hp, he, ⟨rfl, n1, s1⟩, ⟨rfl, n2, s2⟩⟩
/-! ### an insertion -/
theorem MTc.put {D i h : Nat} {mt : Str} {s : PgS} {m n : Int} {f t : List Int} {kd : Int} {its : List Mt} {ps : List Int} {es : List Mt} (F : FR i s m f t) (hn : n ∈ t) (hnp : n ∉ ps) (hD : D ≤ 8) (c : MTc D mt (gpg s) h kd its ps es) (ok : ∀ it ∈ its, MtOk D it) (lz : its.length ≤ 9) :
    FR (i + 1) (pwr n (pad (encM kd its)) s) m f t ∧ MT D mt (gpg (pwr n (pad (encM kd its)) s)) h n (n :: ps) es ∧ ∀ x, x ≠ n → gpg (pwr n (pad (encM kd its)) s) x = gpg s x := by
  refine ⟨F.write hn (pad_len (encM_fit ok lz hD)), ⟨kd, its, ps, rfl, ?_, ?_⟩, fun x hx => gpg_ne s _ hx⟩
  · rw [gpg_eq]; exact .inl ⟨rfl, c.kk, ok, lz⟩
  · exact c.congr fun x hx => gpg_ne s _ fun e => hnp (by rw [← e]; exact hx)
theorem MTc.aput {D i h : Nat} {mt : Str} {s : PgS} {m : Int} {f t : List Int} {kd : Int} {its : List Mt} {ps : List Int} {es : List Mt} (F : FR i s m f t) (hi' : i ≤ 400000) (hps : ∀ x ∈ ps, x ∈ t) (hD : D ≤ 8) (c : MTc D mt (gpg s) h kd its ps es) (ok : ∀ it ∈ its, MtOk D it) (lz : its.length ≤ 9) :
    FR (i + 2) (pwr (palloc s).2 (pad (encM kd its)) (palloc s).1) (alM m f) f.tail ((palloc s).2 :: t) ∧ MT D mt (gpg (pwr (palloc s).2 (pad (encM kd its)) (palloc s).1)) h (palloc s).2 ((palloc s).2 :: ps) es ∧ (∀ x ∈ t, gpg (pwr (palloc s).2 (pad (encM kd its)) (palloc s).1) x = gpg s x) := by
  obtain ⟨e, A, sm⟩ := F.alloc hi'
  rw [← e] at A
  have ni := (List.nodup_cons.mp A.ndt).1
  have c' := c.congr (v' := gpg (palloc s).1) fun x hx => sm x (hps x hx)
  obtain ⟨W, k, o⟩ := c'.put A (n := (palloc s).2) (by simp) (fun z => ni (hps _ z)) hD ok lz
  exact ⟨W, k, fun x hx => by rw [o x fun e => ni (by rw [← e]; exact hx)]; exact sm x hx⟩
structure PnM (D : Nat) (its : List Mt) : Prop where
  ok : ∀ it ∈ its, MtOk D it
  lz : its.length ≤ 10
theorem PnM.svM {D i : Nat} {s : PgS} {m : Int} {f t : List Int} {kd : Int} {its : List Mt} (p : PnM D its) (kk : kd = 3 ∨ kd = 4) (F : FR i s m f t) (hi : i ≤ 400000) : SvM D kd its s :=
  ⟨fun it h => (p.ok it h).l, kk, p.lz, by have := F.dl; omega, F.z 0⟩
theorem PnM.pv {D : Nat} {mt : Str} {its : List Mt} (p : PnM D its) (h : 2 ≤ its.length) : Crd (pv1 mt its) ∧ Crd (pv2 mt its) := by
  obtain ⟨a, b, ea, eb, pa, pb, _⟩ := pv_at (m := mt) h
  rw [← pa, ← pb]
  exact ⟨(p.ok a (List.mem_of_getElem? ea)).c, (p.ok b (List.mem_of_getElem? eb)).c⟩
/-- a page is split, its second half goes to a new page -/
theorem MTc.halves {D i h : Nat} {mt : Str} {s : PgS} {m : Int} {f t : List Int} {kd : Int} {its : List Mt} {ps : List Int} {es : List Mt} (F : FR i s m f t) (hi' : i ≤ 400000) (hps : ∀ x ∈ ps, x ∈ t) (hD : D ≤ 8) (hh : h ≤ 1000) (c : MTc D mt (gpg s) h kd its ps es) (p : PnM D its) (tl : 9 < its.length) :
    ∃ p1 p2 e1 e2 s1, (p1 ++ p2).Perm ps ∧ (e1 ++ e2).Perm es ∧ s1 = pwr (palloc s).2 (pad (encM kd (hS mt its))) (palloc s).1 ∧
      FR (i + 2) s1 (alM m f) f.tail ((palloc s).2 :: t) ∧ MT D mt (gpg s1) h (palloc s).2 ((palloc s).2 :: p2) e2 ∧ MTc D mt (gpg s1) h kd (hF mt its) p1 e1 ∧ (∀ x ∈ t, gpg s1 x = gpg s x) ∧
      (∀ y, Ball mt ⟨pv1 mt its, rad mt (pv1 mt its) kd (hF mt its), y⟩ (524280 * ((h : Int) + 1)) e1) ∧ (∀ y, Ball mt ⟨pv2 mt its, rad mt (pv2 mt its) kd (hS mt its), y⟩ (524280 * ((h : Int) + 1)) e2) := by
  have hl := halves_len mt (its := its) (by omega)
  have n1 : hF mt its ≠ [] := List.ne_nil_of_length_pos hl.2.1
  have n2 : hS mt its ≠ [] := List.ne_nil_of_length_pos hl.2.2
  have lz := p.lz
  obtain ⟨p1, p2, e1, e2, hp, he, c1, c2⟩ := c.part (secB mt (its.map Mt.p) (piv mt (its.map Mt.p))) n1 n2
  have ok1 : ∀ it ∈ hF mt its, MtOk D it := fun it h => p.ok it (hP_mem h)
  have ok2 : ∀ it ∈ hS mt its, MtOk D it := fun it h => p.ok it (hP_mem h)
  have hl1 : (hF mt its).length ≤ 9 := by omega
  have hl2 : (hS mt its).length ≤ 9 := by omega
  obtain ⟨W, k, o⟩ := MTc.aput F hi' (fun x hx => hps x (hp.mem_iff.mp (by simp [hx]))) hD c2 ok2 hl2
  have pl := pv_len (m := mt) (its := its) (by omega) fun it h => (p.ok it h).l
  have pc := p.pv (mt := mt) (by omega)
  exact ⟨p1, p2, e1, e2, _, hp, he, rfl, W, k, c1.congr fun x hx => o x (hps x (hp.mem_iff.mp (by simp [hx]))), o, fun y => c1.ball ok1 n1 pl.1 pc.1 hD, fun y => c2.ball ok2 n2 pl.2 pc.2 hD⟩
/-- the parts of an inner page around a child -/
structure MidM where
  l : List Mt
  c : Mt
  r : List Mt
  p1 : List Int
  pc : List Int
  p3 : List Int
  e1 : List Mt
  ec : List Mt
  e3 : List Mt
structure MidMP (D : Nat) (mt : Str) (v : Int → List Int) (h : Nat) (n : Int) (its : List Mt) (ps : List Int) (es : List Mt) (M : MidM) : Prop where
  ei : its = M.l ++ M.c :: M.r
  ep : ps = n :: (M.p1 ++ (M.pc ++ M.p3))
  ee : es = M.e1 ++ (M.ec ++ M.e3)
  s1 : MSeg (MT D mt v h) mt (524280 * ((h : Int) + 1)) M.l M.p1 M.e1
  kc : MT D mt v h M.c.y M.pc M.ec
  s3 : MSeg (MT D mt v h) mt (524280 * ((h : Int) + 1)) M.r M.p3 M.e3
  bl : Ball mt M.c (524280 * ((h : Int) + 1)) M.ec
theorem list_cut {α : Type} {l : List α} {k : Nat} {x : α} (e : l[k]? = some x) : l = l.take k ++ x :: l.drop (k + 1) ∧ (l.take k).length = k := by
  have hk := (List.getElem?_eq_some_iff.mp e).1
  refine ⟨?_, by rw [List.length_take]; omega⟩
  conv => lhs; rw [← List.take_append_drop k l, List.drop_eq_getElem_cons hk, (List.getElem?_eq_some_iff.mp e).2]
theorem MTc.mid {D : Nat} {mt : Str} {v : Int → List Int} {h : Nat} {n kd : Int} {its : List Mt} {ps : List Int} {es : List Mt} (c : MTc D mt v (h + 1) kd its ps es) {k : Nat} {ch : Mt} (e : its[k]? = some ch) : ∃ M : MidM, MidMP D mt v h n its (n :: ps) es M ∧ M.l = its.take k ∧ M.c = ch ∧ M.r = its.drop (k + 1) ∧ M.l.length = k := by
  obtain ⟨_, _, s⟩ := c
  obtain ⟨ei, ll⟩ := list_cut e
  rw [ei] at s
  obtain ⟨p1, p2, e1, e2, rfl, rfl, s1, s2⟩ := s.split
  obtain ⟨pc, p3, ec, e3, rfl, rfl, bl, kc, s3⟩ := s2
  exact ⟨⟨_, ch, _, p1, pc, p3, e1, ec, e3⟩, ⟨ei, rfl, rfl, s1, kc, s3, bl⟩, rfl, rfl, rfl, ll⟩
theorem perm_inM {n : Int} {p1 pc p3 us : List Int} : (n :: (p1 ++ (pc ++ p3)) ++ us).Perm (pc ++ (n :: (p1 ++ (p3 ++ us)))) := by
  have h1 : (pc ++ (n :: (p1 ++ (p3 ++ us)))).Perm (n :: (pc ++ (p1 ++ (p3 ++ us)))) := List.perm_middle
  refine List.Perm.trans ?_ h1.symm
  show (n :: ((p1 ++ (pc ++ p3)) ++ us)).Perm _
  refine List.Perm.cons n ?_
  rw [List.append_assoc, List.append_assoc, ← List.append_assoc pc, ← List.append_assoc p1, ← List.append_assoc pc]
  rw [← List.append_assoc]
  rw [List.append_assoc (p1 ++ pc)]
  exact List.Perm.append_right _ List.perm_append_comm
theorem MidMP.seg {D : Nat} {mt : Str} {v v' : Int → List Int} {h : Nat} {n : Int} {its : List Mt} {ps : List Int} {es : List Mt} {M : MidM} (P : MidMP D mt v h n its ps es M) {us : List Int} (u : ∀ x ∈ n :: (M.p1 ++ (M.p3 ++ us)), v' x = v x) {cs : List Mt} {q : List Int} {g : List Mt} (s2 : MSeg (MT D mt v' h) mt (524280 * ((h : Int) + 1)) cs q g) :
    MSeg (MT D mt v' h) mt (524280 * ((h : Int) + 1)) (M.l ++ (cs ++ M.r)) (M.p1 ++ (q ++ M.p3)) (M.e1 ++ (g ++ M.e3)) :=
  (P.s1.map fun n p e hp r => MT.congr (fun x hx => u x (by simp [hp x hx])) r).join (s2.join (P.s3.map fun n p e hp r => MT.congr (fun x hx => u x (by simp [hp x hx])) r))
def FitM (D : Nat) (mt : Str) (h i : Nat) (n : Int) (us : List Int) (es : List Mt) (s : PgS) (C : PgS → Prop) : Prop :=
  ∃ s' m' f' ps' es', C s' ∧ FR i s' m' f' (ps' ++ us) ∧ MT D mt (gpg s') h n ps' es' ∧ es'.Perm es ∧ ∀ x ∈ us, gpg s' x = gpg s x
def PendM (D : Nat) (mt : Str) (h i : Nat) (n : Int) (us : List Int) (es : List Mt) (s : PgS) (C : Int → List Mt → PgS → Prop) : Prop :=
  ∃ s' m' f' ps' es' kd its, C kd its s' ∧ FR i s' m' f' (n :: (ps' ++ us)) ∧ MTc D mt (gpg s') h kd its ps' es' ∧ PnM D its ∧ es'.Perm es ∧ ∀ x ∈ us, gpg s' x = gpg s x
theorem perm_midI {it : Mt} {e1 ec e3 ec' : List Mt} (p : ec'.Perm (it :: ec)) : (e1 ++ (ec' ++ e3)).Perm (it :: (e1 ++ (ec ++ e3))) :=
  ((p.append_right e3).append_left e1).trans List.perm_middle
theorem MT.dec {D : Nat} {mt : Str} {v : Int → List Int} {h : Nat} {n : Int} {ps : List Int} {es : List Mt} (r : MT D mt v h n ps es) : ∃ kd its ps', ps = n :: ps' ∧ DecM D (v n) kd its ∧ MTc D mt v h kd its ps' es := r
theorem mins_go {D : Nat} {mt : Str} (hD : D ≤ 8) {it : Mt} (hit : MtOk D it) : ∀ (h : Nat) {n : Int} {ps : List Int} {es : List Mt} {s : PgS} {i : Nat} {m : Int} {f us : List Int},
    FR i s m f (ps ++ us) → MT D mt (gpg s) h n ps es → h ≤ 1000 → i + 5 * h + 5 ≤ 400000 →
    ∃ path l e0 s1, Ds D mt it.p n s path l e0 s1 ∧ path.length = h ∧
      (FitM D mt h (i + 5 * h) n us (it :: es) s (fun s' => ∀ pa, Sm D mt (pa ++ path) l 3 (e0 ++ [it]) s1 s') ∨
       PendM D mt h (i + 5 * h) n us (it :: es) s (fun kd its s2 => ∀ pa s3, Sm D mt pa n kd its s2 s3 → Sm D mt (pa ++ path) l 3 (e0 ++ [it]) s1 s3))
  | 0, n, ps, es, s, i, m, f, us, F, K, h1, hi => by
    obtain ⟨kd, its, ps', rfl, d, rfl, rfl, rfl⟩ := K
    refine ⟨[], n, es, s, .leaf d, rfl, .inr ⟨s, m, f, [], es ++ [it], 3, es ++ [it], fun pa s3 S => by rw [List.append_nil]; exact S, F, ⟨rfl, rfl, rfl⟩, ⟨fun x hx => ?_, by rw [List.length_append, List.length_singleton]; have := d.lz; omega⟩, List.perm_append_comm, fun _ _ => rfl⟩⟩
    rcases List.mem_append.mp hx with q | q
    · exact d.ok x q
    · rw [List.mem_singleton.mp q]; exact hit
  | h + 1, n, ps, es, s, i, m, f, us, F, K, h1, hi => by
    obtain ⟨kd, its, ps', rfl, d, C⟩ := K
    obtain ⟨rfl, ne, _⟩ := id C
    have iok := d.ok
    have lz := d.lz
    obtain ⟨k, dm, fs⟩ := Fst.ex (l := rchs mt it.p its) (by unfold rchs; intro z; exact ne (List.map_eq_nil_iff.mp z))
    have hk : k < its.length := by
      have := (List.getElem?_eq_some_iff.mp fs.e).1
      rw [rchs, List.length_map] at this; exact this
    obtain ⟨ch, ech⟩ : ∃ ch, its[k]? = some ch := ⟨_, List.getElem?_eq_getElem hk⟩
    obtain ⟨M, P, eml, emc, emr, ll⟩ := C.mid (n := n) ech
    have okc := iok ch (List.mem_of_getElem? ech)
    have eg : grow mt it.p its k ch = M.l ++ (⟨ch.p, max ch.x (dist mt ch.p it.p), ch.y⟩ :: M.r) := by
      unfold grow
      rw [List.set_eq_take_append_cons_drop, if_pos hk, eml, emr]
    generalize hc' : (⟨ch.p, max ch.x (dist mt ch.p it.p), ch.y⟩ : Mt) = ch' at eg
    have dle := dist_le (m := mt) okc.c hit.c okc.l hit.l hD
    have dnn := dist_nn mt ch.p it.p
    have okc' : MtOk D ch' := by
      have a0 := okc.x0; have a1 := okc.x1
      subst hc'
      exact ⟨by show 0 ≤ max _ _; omega, by show max _ _ < 256 ^ 4; omega, okc.y0, okc.y1, okc.l, okc.c⟩
    have okg : ∀ x ∈ grow mt it.p its k ch, MtOk D x := fun x hx => by
      rw [eg] at hx
      rcases List.mem_append.mp hx with q | q
      · exact iok x (by rw [eml] at q; exact List.mem_of_mem_take q)
      · rcases List.mem_cons.mp q with rfl | q
        · exact okc'
        · exact iok x (by rw [emr] at q; exact List.mem_of_mem_drop q)
    have lg : (grow mt it.p its k ch).length ≤ 9 := by unfold grow; rw [List.length_set]; exact lz
    have fit := encM_fit (kd := 4) okg lg hD
    have hn : n ∈ n :: ps' ++ us := by simp
    have F0 := F.write hn (pad_len fit)
    have ep := P.ep
    have ees := P.ee
    have nd := F.ndt
    have nn : ∀ x ∈ ps' ++ us, x ≠ n := fun x hx e => (List.nodup_cons.mp nd).1 (by rw [← e]; exact hx)
    have o0 : ∀ x, x ≠ n → gpg (pwr n (pad (encM 4 (grow mt it.p its k ch))) s) x = gpg s x := fun x hx => gpg_ne s _ hx
    have epp : ps' = M.p1 ++ (M.pc ++ M.p3) := by injection ep
    have F1 := F0.perm (t' := M.pc ++ (n :: (M.p1 ++ (M.p3 ++ us)))) (by rw [epp]; exact perm_inM)
    have d0 : DecM D (gpg (pwr n (pad (encM 4 (grow mt it.p its k ch))) s) n) 4 (M.l ++ (ch' :: M.r)) := by
      rw [gpg_eq, ← eg]; exact .inl ⟨rfl, .inr rfl, okg, lg⟩
    have kc0 : MT D mt (gpg (pwr n (pad (encM 4 (grow mt it.p its k ch))) s)) h ch.y M.pc M.ec := by
      have kc1 : MT D mt (gpg s) h ch.y M.pc M.ec := by rw [← emc]; exact P.kc
      exact kc1.congr fun x hx => o0 x (nn x (by rw [epp]; simp [hx]))
    have dl := F.dl
    generalize hs0 : pwr n (pad (encM 4 (grow mt it.p its k ch))) s = s0 at F0 F1 d0 kc0 o0
    have Bc' : ∀ {g : List Mt}, g.Perm (it :: M.ec) → Ball mt ch' (524280 * ((h : Int) + 1)) g := fun {g} pg => by
      have bl := P.bl
      rw [emc] at bl
      subst hc'
      refine ⟨fun z => by rw [z] at pg; exact absurd pg.length_eq (by simp), ?_, fun e he => ?_⟩
      · show max _ _ ≤ _
        have := bl.b; omega
      · show dist mt ch.p e.p ≤ max _ _
        rcases List.mem_cons.mp (pg.mem_iff.mp he) with rfl | q
        · omega
        · have := bl.c e q; omega
    have cy : ch'.y = ch.y := by subst hc'; rfl
    obtain ⟨path, l, e0, s1, ds, lp, Z⟩ := mins_go hD hit h F1 kc0 (by omega) (by omega)
    have ds' : Ds D mt it.p n s ((n, k) :: path) l e0 s1 := Ds.node d fs ech (by omega) (by rw [hs0]; exact ds)
    refine ⟨(n, k) :: path, l, e0, s1, ds', by rw [List.length_cons, lp], ?_⟩
    have ap : ∀ pa : List (Int × Nat), pa ++ (n, k) :: path = (pa ++ [(n, k)]) ++ path := fun pa => by simp
    have nus : ∀ {s' : PgS}, (∀ x ∈ n :: (M.p1 ++ (M.p3 ++ us)), gpg s' x = gpg s0 x) → (∀ x ∈ us, gpg s' x = gpg s x) ∧ ∀ x ∈ M.p1 ++ (M.p3 ++ us), gpg s' x = gpg s x := fun u =>
      ⟨fun x hx => by rw [u x (by simp [hx]), o0 x (nn x (by simp [hx]))], fun x hx => by
        rw [u x (List.mem_cons_of_mem _ hx), o0 x (nn x ?_)]
        rw [epp]
        rcases List.mem_append.mp hx with q | q
        · simp [q]
        · rcases List.mem_append.mp q with q | q <;> simp [q]⟩
    -- the page with the child's part anew
    have seg : ∀ {s' : PgS} {cs : List Mt} {q : List Int} {g : List Mt}, (∀ x ∈ n :: (M.p1 ++ (M.p3 ++ us)), gpg s' x = gpg s0 x) → MSeg (MT D mt (gpg s') h) mt (524280 * ((h : Int) + 1)) cs q g → MSeg (MT D mt (gpg s') h) mt (524280 * ((h : Int) + 1)) (M.l ++ (cs ++ M.r)) (M.p1 ++ (q ++ M.p3)) (M.e1 ++ (g ++ M.e3)) := fun {s' cs q g} u s2 => by
      have u2 := (nus u).2
      exact (P.s1.map fun n p e hp r => MT.congr (fun x hx => u2 x (by simp [hp x hx])) r).join (s2.join (P.s3.map fun n p e hp r => MT.congr (fun x hx => u2 x (by simp [hp x hx])) r))
    have fitUp : ∀ {j : Nat}, j ≤ i + 5 * (h + 1) → FitM D mt h j ch.y (n :: (M.p1 ++ (M.p3 ++ us))) (it :: M.ec) s0 (fun s' => ∀ pa, Sm D mt (pa ++ path) l 3 (e0 ++ [it]) s1 s') → FitM D mt (h + 1) (i + 5 * (h + 1)) n us (it :: es) s (fun s' => ∀ pa, Sm D mt (pa ++ (n, k) :: path) l 3 (e0 ++ [it]) s1 s') := fun {j} hj z => by
      obtain ⟨s', m', f', pc', ec', c, F', K', pe, u⟩ := z
      refine ⟨s', m', f', n :: (M.p1 ++ (pc' ++ M.p3)), M.e1 ++ (ec' ++ M.e3), fun pa => by rw [ap]; exact c _, (F'.le hj).perm perm_inM.symm, ⟨4, M.l ++ (ch' :: M.r), _, rfl, by rw [u n (by simp)]; exact d0, rfl, by simp, ?_⟩, by rw [ees]; exact perm_midI pe, (nus u).1⟩
      exact seg (cs := [ch']) u ⟨pc', [], ec', [], by simp, by simp, Bc' pe, by rw [cy]; exact K', rfl, rfl⟩
    rcases Z with Z | Z
    · exact .inl (fitUp (by omega) Z)
    · obtain ⟨s2, m2, f2, pc', ec', kd2, its2, S, F2, Kc, pn, pe, u⟩ := Z
      have ndc := (List.nodup_cons.mp F2.ndt).1
      by_cases tl : 9 < its2.length
      · obtain ⟨q1, q2, g1, g2, s3, hp, he, es3, W, k2, c1, o, B1, B2⟩ := Kc.halves F2 (by omega) (fun x hx => by simp [hx]) hD (by omega) pn tl
        have hl := halves_len mt (its := its2) (by omega)
        have l2 := pn.lz
        have ok1 : ∀ x ∈ hF mt its2, MtOk D x := fun x hx => pn.ok x (hP_mem hx)
        have q1m : ∀ x ∈ q1, x ∈ pc' := fun x hx => hp.mem_iff.mp (by simp [hx])
        have q2m : ∀ x ∈ q2, x ∈ pc' := fun x hx => hp.mem_iff.mp (by simp [hx])
        obtain ⟨W3, k1, o3⟩ := c1.put W (n := ch.y) (by simp) (fun z => ndc (by simp [q1m _ z])) hD ok1 (by omega)
        have nda := (List.nodup_cons.mp W.ndt).1
        have nda' : (palloc s2).2 ≠ ch.y := fun e => nda (by rw [e]; simp)
        have apos := W.pos (n := (palloc s2).2) (by simp)
        have wmb := W.mb
        have o4 : ∀ x ∈ n :: (M.p1 ++ (M.p3 ++ us)), gpg (pwr ch.y (pad (encM kd2 (hF mt its2))) s3) x = gpg s0 x := fun x hx => by
          rw [o3 x fun e => ndc (by rw [← e]; exact List.mem_append.mpr (.inr hx)), o x (List.mem_cons_of_mem _ (List.mem_append.mpr (.inr hx)))]
          exact u x hx
        have k2' := k2.congr (v' := gpg (pwr ch.y (pad (encM kd2 (hF mt its2))) s3)) fun x hx => o3 x (by
          rcases List.mem_cons.mp hx with rfl | hx
          · exact nda'
          · exact fun e => ndc (by rw [← e]; simp [q2m x hx]))
        have pl := pv_len (m := mt) (its := its2) (by omega) fun x h => (pn.ok x h).l
        have pcr := pn.pv (mt := mt) (by omega)
        have okt : ∀ x ∈ twoM mt kd2 its2 ch.y (palloc s2).2, MtOk D x := fun x hx => by
          have r1 := (B1 0).b; have r2 := (B2 0).b
          have n1 := rad_nn mt (pv1 mt its2) kd2 (hF mt its2); have n2 := rad_nn mt (pv2 mt its2) kd2 (hS mt its2)
          have r1 : rad mt (pv1 mt its2) kd2 (hF mt its2) ≤ 524280 * ((h : Int) + 1) := r1
          have r2 : rad mt (pv2 mt its2) kd2 (hS mt its2) ≤ 524280 * ((h : Int) + 1) := r2
          rcases List.mem_cons.mp hx with rfl | hx
          · exact ⟨n1, by show rad mt (pv1 mt its2) kd2 (hF mt its2) < 256 ^ 4; omega, okc.y0, okc.y1, pl.1, pcr.1⟩
          · rw [List.mem_singleton.mp hx]
            exact ⟨n2, by show rad mt (pv2 mt its2) kd2 (hS mt its2) < 256 ^ 4; omega, by show 0 ≤ (palloc s2).2; omega, by show (palloc s2).2 < _; omega, pl.2, pcr.2⟩
        have lM : M.l.length + 1 + M.r.length ≤ 9 := by
          have e := P.ei
          rw [e, List.length_append, List.length_cons] at lz; omega
        refine .inr ⟨pwr ch.y (pad (encM kd2 (hF mt its2))) s3, alM m2 f2, f2.tail, M.p1 ++ (((ch.y :: q1) ++ ((palloc s2).2 :: q2)) ++ M.p3), M.e1 ++ ((g1 ++ g2) ++ M.e3), 4, M.l ++ (twoM mt kd2 its2 ch.y (palloc s2).2 ++ M.r), fun pa s4 S4 => ?_, ?_, ⟨rfl, by unfold twoM; simp, ?_⟩, ⟨fun x hx => ?_, ?_⟩, ?_, (nus o4).1⟩
        · rw [ap]
          refine S _ _ (Sm.up (pn.svM Kc.kk F2 (by omega)) tl rfl es3 rfl (by rw [o4 n (by simp)]; exact d0) (by rw [List.length_append, List.length_cons]; omega) okt ?_)
          have e5 : (M.l ++ ch' :: M.r).take k = M.l := by rw [← ll, List.take_left]
          have e6 : (M.l ++ ch' :: M.r).drop (k + 1) = M.r := by
            rw [show M.l ++ ch' :: M.r = (M.l ++ [ch']) ++ M.r by simp, show k + 1 = (M.l ++ [ch']).length by simp [ll], List.drop_left]
          rw [e5, e6, List.append_assoc]
          exact S4
        · refine (W3.le (j := i + 5 * (h + 1)) (by omega)).perm ?_
          have e1 : (palloc s2).2 :: ch.y :: (pc' ++ n :: (M.p1 ++ (M.p3 ++ us))) = ((palloc s2).2 :: ch.y :: pc') ++ (n :: (M.p1 ++ (M.p3 ++ us))) := rfl
          rw [e1]
          refine perm_inM.symm.trans ?_
          show (n :: (M.p1 ++ (((palloc s2).2 :: ch.y :: pc') ++ M.p3)) ++ us).Perm (n :: ((M.p1 ++ (((ch.y :: q1) ++ ((palloc s2).2 :: q2)) ++ M.p3)) ++ us))
          refine List.Perm.append_right us (List.Perm.cons n (List.Perm.append_left M.p1 (List.Perm.append_right M.p3 ?_)))
          refine List.Perm.trans ?_ (List.perm_middle (a := (palloc s2).2) (l₁ := ch.y :: q1) (l₂ := q2)).symm
          exact List.Perm.cons _ (List.Perm.cons _ hp.symm)
        · refine seg o4 ?_
          exact ⟨ch.y :: q1, (palloc s2).2 :: q2, g1, g2, rfl, rfl, B1 _, k1, (palloc s2).2 :: q2, [], g2, [], by simp, by simp, B2 _, k2', rfl, rfl⟩
        · rcases List.mem_append.mp hx with q | q
          · exact iok x (by rw [eml] at q; exact List.mem_of_mem_take q)
          · rcases List.mem_append.mp q with q | q
            · exact okt x q
            · exact iok x (by rw [emr] at q; exact List.mem_of_mem_drop q)
        · rw [List.length_append, List.length_append]
          show _ + (2 + _) ≤ 10
          omega
        · rw [ees]
          exact perm_midI (he.trans pe)
      · obtain ⟨W, k1, o⟩ := Kc.put F2 (n := ch.y) (by simp) (fun z => ndc (by simp [z])) hD pn.ok (by omega)
        refine .inl (fitUp (j := i + 1 + 5 * h + 1) (by omega) ⟨_, m2, f2, ch.y :: pc', ec', fun pa => ?_, W, k1, pe, fun x hx => ?_⟩)
        · exact S _ _ (.fit (pn.svM Kc.kk F2 (by omega)) (by omega))
        · rw [o x fun e => ndc (by rw [← e]; exact List.mem_append.mpr (.inr hx))]
          exact u x hx
structure KSM (D : Nat) (mt : Str) (r : Int) (i : Nat) (s : PgS) (m : Int) (f us : List Int) (h : Nat) (ps : List Int) (es : List Mt) : Prop where
  F : FR i s m f (ps ++ us)
  K : MT D mt (gpg s) h r ps es
theorem mins_top {D : Nat} {mt : Str} (hD : D ≤ 8) {it : Mt} (hit : MtOk D it) {r : Int} {i : Nat} {s : PgS} {m : Int} {f us : List Int} {h : Nat} {ps : List Int} {es : List Mt} (S : KSM D mt r i s m f us h ps es) (hh : h ≤ 1000) (hi : i + 5 * h + 10 ≤ 400000) :
    ∃ path l e0 s1 s' m' f' ps' es' h', Ds D mt it.p r s path l e0 s1 ∧ path.length = h ∧ Sm D mt path l 3 (e0 ++ [it]) s1 s' ∧ KSM D mt r (i + 5 * h + 10) s' m' f' us h' ps' es' ∧ es'.Perm (it :: es) ∧ h' ≤ h + 1 ∧ ∀ x ∈ us, gpg s' x = gpg s x := by
  obtain ⟨path, l, e0, s1, ds, lp, Z⟩ := mins_go hD hit h S.F S.K hh (by omega)
  rcases Z with ⟨s', m', f', ps', es', c, F', K', pe, u⟩ | ⟨s2, m1, f1, pc, ec, kd, its, C, F1, Kc, pn, pe, u⟩
  · exact ⟨path, l, e0, s1, s', m', f', ps', es', h, ds, lp, c [], ⟨F'.le (by omega), K'⟩, pe, by omega, u⟩
  · have nd1 := (List.nodup_cons.mp F1.ndt).1
    by_cases tl : 9 < its.length
    · obtain ⟨q1, q2, g1, g2, s3, hp, he, es3, W, k2, c1, o, B1, B2⟩ := Kc.halves F1 (by omega) (fun x hx => by simp [hx]) hD hh pn tl
      have hl := halves_len mt (its := its) (by omega)
      have l2 := pn.lz
      have ok1 : ∀ x ∈ hF mt its, MtOk D x := fun x hx => pn.ok x (hP_mem hx)
      have q1m : ∀ x ∈ q1, x ∈ pc := fun x hx => hp.mem_iff.mp (by simp [hx])
      have q2m : ∀ x ∈ q2, x ∈ pc := fun x hx => hp.mem_iff.mp (by simp [hx])
      have nda := (List.nodup_cons.mp W.ndt).1
      obtain ⟨W2, k1, o2⟩ := MTc.aput W (by omega) (fun x hx => by simp [q1m x hx]) hD c1 ok1 (by omega)
      have ndb := (List.nodup_cons.mp W2.ndt).1
      have pa := W2.pos (n := (palloc s2).2) (by simp)
      have pb := W2.pos (n := (palloc s3).2) (by simp)
      have mb := W2.mb
      have k2' := k2.congr (v' := gpg (pwr (palloc s3).2 (pad (encM kd (hF mt its))) (palloc s3).1)) fun x hx => o2 x (by
        rcases List.mem_cons.mp hx with rfl | hx
        · simp
        · simp [q2m x hx])
      have pl := pv_len (m := mt) (its := its) (by omega) fun x h => (pn.ok x h).l
      have pcr := pn.pv (mt := mt) (by omega)
      have okt : ∀ x ∈ twoM mt kd its (palloc s3).2 (palloc s2).2, MtOk D x := fun x hx => by
        have r1 := (B1 0).b; have r2 := (B2 0).b
        have n1 := rad_nn mt (pv1 mt its) kd (hF mt its); have n2 := rad_nn mt (pv2 mt its) kd (hS mt its)
        have r1 : rad mt (pv1 mt its) kd (hF mt its) ≤ 524280 * ((h : Int) + 1) := r1
        have r2 : rad mt (pv2 mt its) kd (hS mt its) ≤ 524280 * ((h : Int) + 1) := r2
        rcases List.mem_cons.mp hx with rfl | hx
        · exact ⟨n1, by show rad mt (pv1 mt its) kd (hF mt its) < 256 ^ 4; omega, by show 0 ≤ (palloc s3).2; omega, by show (palloc s3).2 < _; omega, pl.1, pcr.1⟩
        · rw [List.mem_singleton.mp hx]
          exact ⟨n2, by show rad mt (pv2 mt its) kd (hS mt its) < 256 ^ 4; omega, by show 0 ≤ (palloc s2).2; omega, by show (palloc s2).2 < _; omega, pl.2, pcr.2⟩
      have Kn : MTc D mt (gpg (pwr (palloc s3).2 (pad (encM kd (hF mt its))) (palloc s3).1)) (h + 1) 4 (twoM mt kd its (palloc s3).2 (palloc s2).2) (((palloc s3).2 :: q1) ++ (((palloc s2).2 :: q2) ++ [])) (g1 ++ (g2 ++ [])) :=
        ⟨rfl, by unfold twoM; simp, (palloc s3).2 :: q1, ((palloc s2).2 :: q2) ++ [], g1, g2 ++ [], rfl, rfl, B1 _, k1, (palloc s2).2 :: q2, [], g2, [], rfl, rfl, B2 _, k2', rfl, rfl⟩
      have hr : r ∉ ((palloc s3).2 :: q1) ++ (((palloc s2).2 :: q2) ++ []) := fun z => by
        simp only [List.append_nil, List.mem_append, List.mem_cons] at z
        rcases z with (z | z) | z | z
        · exact ndb (by rw [← z]; simp)
        · exact nd1 (by simp [q1m r z])
        · exact nda (by rw [← z]; simp)
        · exact nd1 (by simp [q2m r z])
      obtain ⟨W3, k3, o3⟩ := Kn.put W2 (n := r) (by simp) hr hD okt (show (2 : Nat) ≤ 9 by decide)
      refine ⟨path, l, e0, s1, _, _, _, _, _, h + 1, ds, lp, C [] _ (Sm.root (pn.svM Kc.kk F1 (by omega)) tl rfl es3 (W.z 0) rfl rfl okt), ⟨(W3.le (j := i + 5 * h + 10) (by omega)).perm ?_, k3⟩, by rw [List.append_nil]; exact he.trans pe, by omega, fun x hx => ?_⟩
      · rw [List.append_nil]
        have e1 : (palloc s3).2 :: (palloc s2).2 :: r :: (pc ++ us) = [(palloc s3).2, (palloc s2).2] ++ (r :: (pc ++ us)) := rfl
        rw [e1]
        refine List.perm_middle.trans (List.Perm.cons r ?_)
        show ((palloc s3).2 :: (palloc s2).2 :: (pc ++ us)).Perm (((palloc s3).2 :: (q1 ++ (palloc s2).2 :: q2)) ++ us)
        rw [← List.cons_append, ← List.cons_append]
        refine List.Perm.append_right us (List.Perm.cons _ ?_)
        exact (List.Perm.cons _ hp.symm).trans (List.perm_middle).symm
      · rw [o3 x fun e => nd1 (by rw [← e]; simp [hx]), o2 x (by simp [hx]), o x (by simp [hx])]
        exact u x hx
    · obtain ⟨W, k, o⟩ := Kc.put F1 (n := r) (by simp) (fun z => nd1 (by simp [z])) hD pn.ok (by omega)
      exact ⟨path, l, e0, s1, _, m1, f1, _, ec, h, ds, lp, C [] _ (.fit (pn.svM Kc.kk F1 (by omega)) (by omega)), ⟨W.le (by omega), k⟩, pe, by omega, fun x hx => by rw [o x fun e => nd1 (by rw [← e]; simp [hx])]; exact u x hx⟩
/-! ### the search -/
theorem cnd_app (m : Str) (pt : List Int) (pa : List (Int × Nat)) (n : Int) : ∀ (k : Nat) (l r : List Mt), cnd m pt pa n k (l ++ r) = cnd m pt pa n k l ++ cnd m pt pa n (k + l.length) r
  | _, [], _ => rfl
  | k, c :: l, r => by
    show (if dist m c.p pt ≤ c.x then [(pa ++ [(n, k)], c.y)] else []) ++ cnd m pt pa n (k + 1) (l ++ r) = _
    rw [cnd_app m pt pa n (k + 1) l r, ← List.append_assoc, List.length_cons, show k + 1 + l.length = k + (l.length + 1) by omega]
    rfl
theorem fd_miss {D : Nat} {mt : Str} {v : Int → List Int} {it : Mt} : ∀ (h : Nat) {n : Int} {ps : List Int} {es : List Mt}, MT D mt v h n ps es → it ∉ es → ∀ {pa pa' : List (Int × Nat)} {st : List (List (Int × Nat) × Int)} {n' : Int} {e' : List Mt} {k : Nat}, pa.length + h ≤ 1000 → st.length + 9 * h ≤ 100000 → Fd D mt v it st pa' n' e' k → ∃ k', Fd D mt v it ((pa, n) :: st) pa' n' e' k'
  | 0, n, ps, es, K, ni, pa, pa', st, n', e', k, h1, h2, F => by
    obtain ⟨kd, its, ps', rfl, d, rfl, rfl, rfl⟩ := K
    exact ⟨_, .miss d ni F⟩
  | h + 1, n, ps, es, K, ni, pa, pa', st, n', e', k, h1, h2, F => by
    obtain ⟨kd, its, ps', rfl, d, rfl, ne, s⟩ := K
    have lz := d.lz
    have go : ∀ {cs : List Mt} {q : List Int} {g : List Mt} (j : Nat), MSeg (MgR D v (MTc D mt v h)) mt (524280 * ((h : Int) + 1)) cs q g → it ∉ g → cs.length ≤ 9 → ∃ k', Fd D mt v it (cnd mt it.p pa n j cs ++ st) pa' n' e' k' := by
      intro cs
      induction cs with
      | nil => exact fun j _ _ _ => ⟨k, F⟩
      | cons c cs ih =>
        intro q g j sg hg hl
        obtain ⟨p1, p2, e1, e2, rfl, rfl, bl, r, s'⟩ := sg
        obtain ⟨k', F'⟩ := ih (j + 1) s' (fun z => hg (by simp [z])) (by rw [List.length_cons] at hl; omega)
        show ∃ k', Fd D mt v it ((if dist mt c.p it.p ≤ c.x then [(pa ++ [(n, j)], c.y)] else []) ++ cnd mt it.p pa n (j + 1) cs ++ st) pa' n' e' k'
        split
        · have cl := cnd_len mt it.p pa n (j + 1) cs
          rw [List.length_cons] at hl
          exact fd_miss h r (fun z => hg (by simp [z])) (by rw [List.length_append, List.length_singleton]; omega) (by show (cnd mt it.p pa n (j + 1) cs ++ st).length + 9 * h ≤ 100000; rw [List.length_append]; omega) F'
        · exact ⟨k', F'⟩
    obtain ⟨k', F'⟩ := go 0 s ni lz
    exact ⟨_, .down d (by omega) (by omega) F'⟩
theorem fd_seg {D : Nat} {mt : Str} {v : Int → List Int} {it : Mt} {h : Nat} {n : Int} {B : Int} {pa pa' : List (Int × Nat)} {rest : List (List (Int × Nat) × Int)} {n' : Int} {e' : List Mt} {k : Nat} (h1 : pa.length + h + 1 ≤ 1000) (F : Fd D mt v it rest pa' n' e' k) : ∀ {cs : List Mt} {q : List Int} {g : List Mt} (j : Nat), MSeg (MT D mt v h) mt B cs q g → it ∉ g → rest.length + cs.length + 9 * h ≤ 100000 → ∃ k', Fd D mt v it (cnd mt it.p pa n j cs ++ rest) pa' n' e' k'
  | [], _, _, _, _, _, _ => ⟨k, F⟩
  | c :: cs, q, g, j, sg, hg, hl => by
    obtain ⟨p1, p2, e1, e2, rfl, rfl, bl, r, s'⟩ := sg
    rw [List.length_cons] at hl
    obtain ⟨k', F'⟩ := fd_seg h1 F (j + 1) s' (fun z => hg (by simp [z])) (by omega)
    show ∃ k', Fd D mt v it ((if dist mt c.p it.p ≤ c.x then [(pa ++ [(n, j)], c.y)] else []) ++ cnd mt it.p pa n (j + 1) cs ++ rest) pa' n' e' k'
    split
    · have cl := cnd_len mt it.p pa n (j + 1) cs
      exact fd_miss h r (fun z => hg (by simp [z])) (by rw [List.length_append, List.length_singleton]; omega) (by show (cnd mt it.p pa n (j + 1) cs ++ rest).length + 9 * h ≤ 100000; rw [List.length_append]; omega) F'
    · exact ⟨k', F'⟩
/-! ### a deletion -/
theorem encM_nz {kd : Int} {its : List Mt} (h : kd ≠ 0) : pad (encM kd its) ≠ zeros := fun z => by
  have : (pad (encM kd its)).head? = zeros.head? := by rw [z]
  unfold pad encM zeros at this
  simp at this
  exact h this
theorem DecM.strict {D : Nat} {v : List Int} {kd : Int} {its : List Mt} (d : DecM D v kd its) (n : v ≠ zeros ∨ its ≠ []) : v = pad (encM kd its) := by
  rcases d with ⟨e, _⟩ | ⟨e, _, e2⟩
  · exact e
  · rcases n with n | n
    · exact absurd e n
    · exact absurd e2 n
theorem DecM.nz {D : Nat} {v : List Int} {kd : Int} {its : List Mt} (d : DecM D v kd its) (n : its ≠ []) : v ≠ zeros := by
  rw [d.strict (.inr n)]
  exact encM_nz (by rcases d.kk with e | e <;> rw [e] <;> decide)
theorem MT.nz {D : Nat} {m : Str} {v : Int → List Int} {h : Nat} {n : Int} {ps : List Int} {es : List Mt} (K : MT D m v h n ps es) (ne : es ≠ []) : v n ≠ zeros := by
  obtain ⟨kd, its, _, _, d, c⟩ := K
  exact d.nz (c.nil ne)
/-- a way of pages and places -/
inductive WyM (D : Nat) (v : Int → List Int) : Int → List (Int × Nat) → Int → List Mt → Prop
  | leaf {n : Int} {its : List Mt} : DecM D (v n) 3 its → WyM D v n [] n its
  | node {n l : Int} {its es : List Mt} {ch : Mt} {k : Nat} {path : List (Int × Nat)} : DecM D (v n) 4 its → its[k]? = some ch → WyM D v ch.y path l es → WyM D v n ((n, k) :: path) l es
theorem WyM.dec {D : Nat} {v : Int → List Int} {n l : Int} {path : List (Int × Nat)} {es : List Mt} (h : WyM D v n path l es) : DecM D (v l) 3 es := by
  induction h with
  | leaf d => exact d
  | node _ _ _ ih => exact ih
def FitD (D : Nat) (mt : Str) (h i : Nat) (n : Int) (us : List Int) (it : Mt) (es : List Mt) (s : PgS) (C : PgS → Prop) : Prop :=
  ∃ s' m' f' ps' es', C s' ∧ FR i s' m' f' (ps' ++ us) ∧ MT D mt (gpg s') h n ps' es' ∧ es' ≠ [] ∧ (it :: es').Perm es ∧ ∀ x ∈ us, gpg s' x = gpg s x
def PenD (D : Nat) (mt : Str) (h i : Nat) (n : Int) (us : List Int) (it : Mt) (es : List Mt) (s : PgS) (C : Int → List Mt → PgS → Prop) : Prop :=
  ∃ s' m' f' ps' es' kd its, C kd its s' ∧ FR i s' m' f' (n :: (ps' ++ us)) ∧ MTc D mt (gpg s') h kd its ps' es' ∧ (∀ x ∈ its, MtOk D x) ∧ its.length ≤ 9 ∧ its ≠ [] ∧ (it :: es').Perm es ∧ ∀ x ∈ us, gpg s' x = gpg s x
def EmpD (D : Nat) (i : Nat) (n : Int) (us : List Int) (it : Mt) (es : List Mt) (s : PgS) (C : Int → List Mt → PgS → Prop) : Prop :=
  ∃ s' m' f' kd, C kd [] s' ∧ FR i s' m' f' (n :: us) ∧ es = [it] ∧ (kd = 3 ∨ kd = 4) ∧ ∀ x ∈ us, gpg s' x = gpg s x
theorem svM_of {D i : Nat} {s : PgS} {m : Int} {f t : List Int} {kd : Int} {its : List Mt} (ok : ∀ it ∈ its, MtOk D it) (lz : its.length ≤ 9) (kk : kd = 3 ∨ kd = 4) (F : FR i s m f t) (hi : i ≤ 400000) : SvM D kd its s :=
  ⟨fun it h => (ok it h).l, kk, by omega, by have := F.dl; omega, F.z 0⟩
theorem stopM {D i : Nat} {s : PgS} {m n : Int} {f t : List Int} {kd : Int} {its : List Mt} {pa : List (Int × Nat)} (ok : ∀ it ∈ its, MtOk D it) (lz : its.length ≤ 9) (ne : its ≠ []) (kk : kd = 3 ∨ kd = 4) (F : FR i s m f t) (hi : i ≤ 400000) : DlM D pa n kd its s (pwr n (pad (encM kd its)) s) := by
  have h := DlM.stop (D := D) (path := pa) (n := n) (s := s) (fun z => absurd z ne) (svM_of ok lz kk F hi)
  rw [if_neg ne] at h
  exact h lz
theorem delM_perm {it : Mt} : ∀ {es : List Mt}, es.Nodup → it ∈ es → (it :: delM it es).Perm es
  | [], _, h => by cases h
  | x :: es, nd, h => by
    obtain ⟨nx, nd'⟩ := List.nodup_cons.mp nd
    unfold delM
    by_cases e : x = it
    · subst e
      rw [List.filter_cons_of_neg (by simp)]
      have : es.filter (fun y => !decide (y = x)) = es := List.filter_eq_self.mpr fun y hy => by
        rw [decide_eq_false (fun z => nx (by rw [← z]; exact hy))]; rfl
      rw [this]
    · rw [List.filter_cons_of_pos (by simp [e])]
      have hin : it ∈ es := by
        rcases List.mem_cons.mp h with z | z
        · exact absurd z.symm e
        · exact z
      exact (List.Perm.swap _ _ _).trans ((delM_perm nd' hin).cons x)
theorem MT.one {D : Nat} {mt : Str} {v : Int → List Int} {h : Nat} {n : Int} {kd : Int} {its : List Mt} {ps : List Int} {es : List Mt} (d : DecM D (v n) kd its) (c : MTc D mt v h kd its ps es) : MT D mt v h n (n :: ps) es := ⟨kd, its, ps, rfl, d, c⟩
theorem mdel_go {D : Nat} {mt : Str} (hD : D ≤ 8) {it : Mt} : ∀ (h : Nat) {n : Int} {ps : List Int} {es : List Mt} {s : PgS} {i : Nat} {m : Int} {f us : List Int},
    FR i s m f (ps ++ us) → MT D mt (gpg s) h n ps es → es.Nodup → it ∈ es → i + 2 * h + 3 ≤ 400000 →
    ∃ path l e0, WyM D (gpg s) n path l e0 ∧ it ∈ e0 ∧ path.length = h ∧
      (∀ (pa : List (Int × Nat)) (st : List (List (Int × Nat) × Int)), pa.length + h ≤ 1000 → st.length + 9 * h ≤ 90000 → ∃ k', Fd D mt (gpg s) it ((pa, n) :: st) (pa ++ path) l e0 k') ∧
      (FitD D mt h (i + 2 * h) n us it es s (fun s' => ∀ pa, DlM D (pa ++ path) l 3 (delM it e0) s s') ∨
       PenD D mt h (i + 2 * h) n us it es s (fun kd its s2 => ∀ pa s3, DlM D pa n kd its s2 s3 → DlM D (pa ++ path) l 3 (delM it e0) s s3) ∨
       EmpD D (i + 2 * h) n us it es s (fun kd its s2 => ∀ pa s3, DlM D pa n kd its s2 s3 → DlM D (pa ++ path) l 3 (delM it e0) s s3))
  | 0, n, ps, es, s, i, m, f, us, F, K, nd, hin, hi => by
    obtain ⟨kd, its, ps', rfl, d, rfl, rfl, rfl⟩ := K
    have pe := delM_perm nd hin
    refine ⟨[], n, es, .leaf d, hin, rfl, fun pa st _ _ => ⟨0, by rw [List.append_nil]; exact .hit d hin⟩, ?_⟩
    by_cases z : delM it es = []
    · rw [z] at pe
      exact .inr (.inr ⟨s, m, f, 3, fun pa s3 S => by rw [List.append_nil, z]; exact S, F, (List.perm_singleton.mp pe.symm), .inl rfl, fun _ _ => rfl⟩)
    · exact .inr (.inl ⟨s, m, f, [], delM it es, 3, delM it es, fun pa s3 S => by rw [List.append_nil]; exact S, F, ⟨rfl, rfl, rfl⟩, fun x hx => d.ok x (List.mem_filter.mp hx).1, Nat.le_trans (List.length_filter_le _ _) d.lz, z, pe, fun _ _ => rfl⟩)
  | h + 1, n, ps, es, s, i, m, f, us, F, K, nd, hin, hi => by
    obtain ⟨kd, its, ps', rfl, d, C⟩ := K
    obtain ⟨rfl, ne, sg⟩ := id C
    have iok := d.ok
    have lz := d.lz
    -- the child that holds it
    have find : ∀ {cs : List Mt} {q : List Int} {g : List Mt}, MSeg (MT D mt (gpg s) h) mt (524280 * ((h : Int) + 1)) cs q g → it ∈ g → ∃ k ch p1 pc p3 e1 ec e3, cs[k]? = some ch ∧ q = p1 ++ (pc ++ p3) ∧ g = e1 ++ (ec ++ e3) ∧ MSeg (MT D mt (gpg s) h) mt (524280 * ((h : Int) + 1)) (cs.take k) p1 e1 ∧ MT D mt (gpg s) h ch.y pc ec ∧ MSeg (MT D mt (gpg s) h) mt (524280 * ((h : Int) + 1)) (cs.drop (k + 1)) p3 e3 ∧ Ball mt ch (524280 * ((h : Int) + 1)) ec ∧ it ∈ ec := by
      intro cs
      induction cs with
      | nil =>
        intro q g sg hg
        obtain ⟨_, rfl⟩ := sg
        cases hg
      | cons c cs ih =>
        intro q g sg hg
        obtain ⟨p1, p2, e1, e2, rfl, rfl, bl, r, s'⟩ := sg
        by_cases z : it ∈ e1
        · exact ⟨0, c, [], p1, p2, [], e1, e2, rfl, rfl, rfl, ⟨rfl, rfl⟩, r, s', bl, z⟩
        · obtain ⟨k, ch, q1, qc, q3, f1, fc, f3, a, rfl, rfl, b, cc, dd, ee, ff⟩ := ih s' (by
            rcases List.mem_append.mp hg with y | y
            · exact absurd y z
            · exact y)
          exact ⟨k + 1, ch, p1 ++ q1, qc, q3, e1 ++ f1, fc, f3, a, (List.append_assoc _ _ _).symm, (List.append_assoc _ _ _).symm, ⟨p1, q1, e1, f1, rfl, rfl, bl, r, b⟩, cc, dd, ee, ff⟩
    obtain ⟨k, ch, p1, pc, p3, e1, ec, e3, ech, rfl, rfl, s1, kc, s3, bl, hec⟩ := find sg hin
    have hk := (List.getElem?_eq_some_iff.mp ech).1
    obtain ⟨eits, ll⟩ := list_cut ech
    have okc := iok ch (List.mem_of_getElem? ech)
    rw [List.nodup_append, List.nodup_append] at nd
    obtain ⟨nd1, ⟨ndc, nd3, nx3⟩, nx1⟩ := nd
    have ni1 : it ∉ e1 := fun z => nx1 it z it (by simp [hec]) rfl
    have ni3 : it ∉ e3 := fun z => nx3 it hec it z rfl
    have F1 := F.perm (t' := pc ++ (n :: (p1 ++ (p3 ++ us)))) perm_inM
    obtain ⟨path, l, e0, wy, hin0, lp, fd, Z⟩ := mdel_go hD h F1 kc ndc hec (by omega)
    have ap : ∀ pa : List (Int × Nat), pa ++ (n, k) :: path = (pa ++ [(n, k)]) ++ path := fun pa => by simp
    refine ⟨(n, k) :: path, l, e0, .node d ech wy, hin0, by rw [List.length_cons, lp], fun pa st h1 h2 => ?_, ?_⟩
    · have ltk : (its.take k).length = k := ll
      obtain ⟨k1, F1'⟩ := fd (pa ++ [(n, k)]) (cnd mt it.p pa n (k + 1) (its.drop (k + 1)) ++ st) (by rw [List.length_append, List.length_singleton]; omega) (by
        have := cnd_len mt it.p pa n (k + 1) (its.drop (k + 1))
        rw [List.length_drop] at this
        rw [List.length_append]; omega)
      rw [ap]
      obtain ⟨k2, F2'⟩ := fd_seg (cs := its.take k) (n := n) (pa := pa) (by omega) F1' 0 s1 ni1 (by
        have := cnd_len mt it.p pa n (k + 1) (its.drop (k + 1))
        rw [List.length_drop] at this
        rw [List.length_cons, List.length_append, ltk]; omega)
      have ec : cnd mt it.p pa n 0 its = cnd mt it.p pa n 0 (its.take k) ++ ((pa ++ [(n, k)], ch.y) :: cnd mt it.p pa n (k + 1) (its.drop (k + 1))) := by
        conv => lhs; rw [eits]
        rw [cnd_app, ltk, Nat.zero_add]
        congr 1
        show (if dist mt ch.p it.p ≤ ch.x then [(pa ++ [(n, k)], ch.y)] else []) ++ _ = _
        rw [if_pos (bl.c it hec)]; rfl
      refine ⟨_, .down d (by omega) (by omega) (k := k2) ?_⟩
      rw [ec, List.append_assoc]
      exact F2'
    · have nus : ∀ {s' : PgS}, (∀ x ∈ n :: (p1 ++ (p3 ++ us)), gpg s' x = gpg s x) → ∀ x ∈ us, gpg s' x = gpg s x := fun u x hx => u x (by simp [hx])
      have ndp := F.ndt
      have pe : ∀ {g : List Mt}, (it :: g).Perm ec → (it :: (e1 ++ (g ++ e3))).Perm (e1 ++ (ec ++ e3)) := fun {g} pg => List.perm_middle.symm.trans ((pg.append_right e3).append_left e1)
      have fitUp : ∀ {j : Nat}, j ≤ i + 2 * (h + 1) → FitD D mt h j ch.y (n :: (p1 ++ (p3 ++ us))) it ec s (fun s' => ∀ pa, DlM D (pa ++ path) l 3 (delM it e0) s s') → FitD D mt (h + 1) (i + 2 * (h + 1)) n us it (e1 ++ (ec ++ e3)) s (fun s' => ∀ pa, DlM D (pa ++ (n, k) :: path) l 3 (delM it e0) s s') := fun {j} hj z => by
        obtain ⟨s', m', f', pc', ec', c, F', K', nz, pg, u⟩ := z
        refine ⟨s', m', f', n :: (p1 ++ (pc' ++ p3)), e1 ++ (ec' ++ e3), fun pa => by rw [ap]; exact c _, (F'.le hj).perm perm_inM.symm, ⟨4, its, _, rfl, by rw [u n (by simp)]; exact d, rfl, ne, ?_⟩, by simp [nz], pe pg, nus u⟩
        rw [eits]
        refine (s1.map fun n p e hp r => MT.congr (fun x hx => u x (by simp [hp x hx])) r).join ⟨pc', p3, ec', e3, rfl, rfl, ⟨nz, bl.b, fun e he => bl.c e (pg.mem_iff.mp (by simp [he]))⟩, K', s3.map fun n p e hp r => MT.congr (fun x hx => u x (by simp [hp x hx])) r⟩
      rcases Z with Z | Z | Z
      · exact .inl (fitUp (by omega) Z)
      · obtain ⟨s2, m2, f2, pc', ec', kd2, its2, S, F2, Kc, ok2, lz2, nz2, pg, u⟩ := Z
        have ndc2 := (List.nodup_cons.mp F2.ndt).1
        obtain ⟨W, k1, o⟩ := Kc.put F2 (n := ch.y) (by simp) (fun z => ndc2 (by simp [z])) hD ok2 lz2
        refine .inl (fitUp (j := i + 2 * h + 1) (by omega) ⟨_, m2, f2, ch.y :: pc', ec', fun pa => ?_, W, k1, Kc.ne nz2, pg, fun x hx => ?_⟩)
        · exact S _ _ (stopM ok2 lz2 nz2 Kc.kk F2 (by omega))
        · rw [o x fun e => ndc2 (by rw [← e]; exact List.mem_append.mpr (.inr hx))]
          exact u x hx
      · obtain ⟨s2, m2, f2, kd2, S, F2, ee, kk2, u⟩ := Z
        obtain ⟨F3, o⟩ := F2.rel (by omega)
        have oo : ∀ x ∈ n :: (p1 ++ (p3 ++ us)), gpg (prel ch.y s2) x = gpg s x := fun x hx => by rw [o x hx]; exact u x hx
        have dd : DecM D (gpg (prel ch.y s2) n) 4 its := by rw [oo n (by simp)]; exact d
        have er : its.eraseIdx k = its.take k ++ its.drop (k + 1) := List.eraseIdx_eq_take_drop_succ ..
        have svE : SvM D kd2 [] s2 := svM_of (fun _ z => by simp at z) (Nat.zero_le _) kk2 F2 (by omega)
        have go : ∀ pa s3, DlM D pa n 4 (its.take k ++ its.drop (k + 1)) (prel ch.y s2) s3 → DlM D (pa ++ (n, k) :: path) l 3 (delM it e0) s s3 := fun pa s3 X => by
          rw [ap]
          refine S _ _ (.climb svE dd hk ?_)
          rw [er]; exact X
        subst ee
        by_cases z : its.take k ++ its.drop (k + 1) = []
        · obtain ⟨z1, z2⟩ := List.append_eq_nil_iff.mp z
          rw [z1] at s1
          rw [z2] at s3
          obtain ⟨rfl, rfl⟩ := s1
          obtain ⟨rfl, rfl⟩ := s3
          exact .inr (.inr ⟨prel ch.y s2, m2, ch.y :: f2, 4, fun pa s3 X => go pa s3 (by rw [z]; exact X), F3.le (by omega), rfl, .inr rfl, nus oo⟩)
        · refine .inr (.inl ⟨prel ch.y s2, m2, ch.y :: f2, p1 ++ p3, e1 ++ e3, 4, its.take k ++ its.drop (k + 1), go, by rw [List.append_assoc]; exact F3.le (by omega), ⟨rfl, z, ?_⟩, fun x hx => ?_, ?_, z, pe (g := []) (.refl _), nus oo⟩)
          · exact (s1.map fun n p e hp r => MT.congr (fun x hx => oo x (by simp [hp x hx])) r).join (s3.map fun n p e hp r => MT.congr (fun x hx => oo x (by simp [hp x hx])) r)
          · rcases List.mem_append.mp hx with q | q
            · exact iok x (List.mem_of_mem_take q)
            · exact iok x (List.mem_of_mem_drop q)
          · rw [List.length_append, List.length_take, List.length_drop]; omega
/-- an inner root with one child takes its content: with the pages that go -/
inductive LwLM (D : Nat) (r : Int) : List Int → Int → List Mt → PgS → PgS → Prop
  | done {kd : Int} {its : List Mt} {s : PgS} : ¬ (kd = 4 ∧ its.length = 1) → LwLM D r [] kd its s s
  | step {l : List Int} {kd : Int} {ch : Mt} {its : List Mt} {s s' : PgS} : DecM D (gpg s ch.y) kd its → LwLM D r l kd its (prel ch.y (pwr r (pad (encM kd its)) s)) s' → LwLM D r (ch.y :: l) 4 [ch] s s'
theorem mlw_go {D : Nat} {mt : Str} (hD : D ≤ 8) {r : Int} : ∀ (h : Nat) {ps : List Int} {es : List Mt} {s : PgS} {i : Nat} {m : Int} {f us : List Int} {kd : Int} {its : List Mt},
    FR i s m f (r :: (ps ++ us)) → DecM D (gpg s r) kd its → MTc D mt (gpg s) h kd its ps es → i + 2 * h + 3 ≤ 400000 →
    ∃ mm s' m' f' ps' h', LwM D r mm kd its s s' ∧ FR (i + 2 * h) s' m' f' (ps' ++ us) ∧ MT D mt (gpg s') h' r ps' es ∧ h' ≤ h ∧ (gpg s r ≠ zeros → gpg s' r ≠ zeros) ∧ (∀ x ∈ us, gpg s' x = gpg s x) ∧ ∃ l, LwLM D r l kd its s s' ∧ l.Nodup ∧ l.length ≤ h ∧ ∀ x ∈ l, x ∈ ps
  | 0, ps, es, s, i, m, f, us, kd, its, F, d, K, hi => by
    have K0 := K
    obtain ⟨rfl, rfl, _⟩ := K
    exact ⟨0, s, m, f, [r], 0, .done fun z => absurd z.1 (by decide), F, ⟨3, its, [], rfl, d, K0⟩, Nat.le_refl _, id, fun _ _ => rfl, [], .done fun z => absurd z.1 (by decide), .nil, Nat.le_refl _, fun x hx => by simp at hx⟩
  | h + 1, ps, es, s, i, m, f, us, kd, cs, F, d, K, hi => by
    have K0 := K
    obtain ⟨rfl, nc, sg⟩ := K
    by_cases l1 : cs.length = 1
    · obtain ⟨ch, rfl⟩ := List.length_eq_one_iff.mp l1
      obtain ⟨p1, p2, e1, e2, rfl, rfl, bl, kc, rfl, rfl⟩ := sg
      obtain ⟨kd', its', pc, rfl, d', c'⟩ := kc
      rw [List.append_nil] at *
      have nd := F.ndt
      have nr := (List.nodup_cons.mp nd).1
      have nch := (List.nodup_cons.mp (List.nodup_cons.mp nd).2).1
      have rc : r ≠ ch.y := fun z => nr (by rw [z]; simp)
      obtain ⟨W, k, o⟩ := c'.put F (n := r) (by simp) (fun z => nr (by simp [z])) hD d'.ok d'.lz
      have W2 := W.perm (t' := ch.y :: (r :: (pc ++ us))) (List.Perm.swap ch.y r _)
      obtain ⟨F3, o3⟩ := W2.rel (by omega)
      have ed : gpg (prel ch.y (pwr r (pad (encM kd' its')) s)) r = pad (encM kd' its') := by rw [o3 r (by simp), gpg_eq]
      have d3 : DecM D (gpg (prel ch.y (pwr r (pad (encM kd' its')) s)) r) kd' its' := .inl ⟨ed, d'.kk, d'.ok, d'.lz⟩
      have k3 := c'.congr (v' := gpg (prel ch.y (pwr r (pad (encM kd' its')) s))) fun x hx => by
        rw [o3 x (by simp [hx]), o x fun e => nr (by rw [← e]; simp [hx])]
      obtain ⟨mm, s', m', f', ps2, h', lw, F4, K4, hh, nz, u, l, lwl, lnd, lll, lps⟩ := mlw_go hD h F3 d3 k3 (by omega)
      have dl := F.dl
      exact ⟨mm + 1, s', m', f', ps2, h', .step d' (by omega) (W.z 0) lw, F4.le (by omega), K4, by omega, fun _ => nz (by rw [ed]; exact encM_nz (by rcases d'.kk with e | e <;> rw [e] <;> decide)), fun x hx => by rw [u x hx, o3 x (by simp [hx]), o x fun e => nr (by rw [← e]; simp [hx])], ch.y :: l, .step d' lwl, List.nodup_cons.mpr ⟨fun z => nch (by have := lps _ z; simp [this]), lnd⟩, by rw [List.length_cons]; omega, fun x hx => by
        rcases List.mem_cons.mp hx with rfl | hx
        · simp
        · have := lps x hx; simp [this]⟩
    · exact ⟨0, s, m, f, r :: ps, h + 1, .done fun z => l1 z.2, F.le (by omega), ⟨4, cs, ps, rfl, d, K0⟩, Nat.le_refl _, id, fun _ _ => rfl, [], .done fun z => l1 z.2, .nil, Nat.zero_le _, fun x hx => by simp at hx⟩
theorem mdel_top {D : Nat} {mt : Str} (hD : D ≤ 8) {it : Mt} {r : Int} {i : Nat} {s : PgS} {m : Int} {f us : List Int} {h : Nat} {ps : List Int} {es : List Mt} (S : KSM D mt r i s m f us h ps es) (nd : es.Nodup) (hin : it ∈ es) (hh : h ≤ 900) (hi : i + 4 * h + 10 ≤ 400000) :
    ∃ path l e0 k s1 mm kd its s' m' f' ps' es' h', WyM D (gpg s) r path l e0 ∧ it ∈ e0 ∧ path.length = h ∧ Fd D mt (gpg s) it [([], r)] path l e0 k ∧ DlM D path l 3 (delM it e0) s s1 ∧ DecM D (gpg s1 r) kd its ∧ LwM D r mm kd its s1 s' ∧ KSM D mt r (i + 4 * h + 10) s' m' f' us h' ps' es' ∧ (it :: es').Perm es ∧ h' ≤ h ∧ gpg s' r ≠ zeros ∧ (∀ x ∈ us, gpg s' x = gpg s x) ∧
      ∃ ll j m1 f1 tq, LwLM D r ll kd its s1 s' ∧ FR j s1 m1 f1 tq ∧ j ≤ i + 2 * h + 1 ∧ ll.Nodup ∧ r ∉ ll ∧ r ∈ tq ∧ ll.length ≤ h ∧ ∀ x ∈ ll, x ∈ tq := by
  obtain ⟨path, l, e0, wy, hin0, lp, fd, Z⟩ := mdel_go hD h S.F S.K nd hin (by omega)
  obtain ⟨k, fd0⟩ := fd [] [] (by simp; omega) (by simp; omega)
  rcases Z with ⟨s1, m1, f1, p1, es1, c, F1, K1, nz, pe, u⟩ | ⟨s0, m0, f0, pc, es1, kd, its, C, F1, Kc, ok, lz, nz, pe, u⟩ | ⟨s0, m0, f0, kd, C, F1, ee, kk, u⟩
  · have zz := K1.nz nz
    obtain ⟨kd, its, pc, rfl, d, Kc⟩ := K1
    obtain ⟨mm, s', m', f', ps', h', lw, F2, K2, hh', nz2, u2, ll, lwl, lnd, lll, lps⟩ := mlw_go hD h F1 d Kc (by omega)
    have nr1 := (List.nodup_cons.mp F1.ndt).1
    exact ⟨path, l, e0, k, s1, mm, kd, its, s', m', f', ps', es1, h', wy, hin0, lp, fd0, c [], d, lw, ⟨F2.le (by omega), K2⟩, pe, hh', nz2 zz, fun x hx => by rw [u2 x hx, u x hx], ll, _, _, _, _, lwl, F1, by omega, lnd, fun z => nr1 (by have := lps _ z; simp [this]), by simp, lll, fun x hx => by have := lps x hx; simp [this]⟩
  · have nd1 := (List.nodup_cons.mp F1.ndt).1
    obtain ⟨W, k1, o⟩ := Kc.put F1 (n := r) (by simp) (fun z => nd1 (by simp [z])) hD ok lz
    have er : gpg (pwr r (pad (encM kd its)) s0) r = pad (encM kd its) := gpg_eq _ _ _
    have zz : gpg (pwr r (pad (encM kd its)) s0) r ≠ zeros := by rw [er]; exact encM_nz (by rcases Kc.kk with e | e <;> rw [e] <;> decide)
    have d3 : DecM D (gpg (pwr r (pad (encM kd its)) s0) r) kd its := .inl ⟨er, Kc.kk, ok, lz⟩
    have k3 := Kc.congr (v' := gpg (pwr r (pad (encM kd its)) s0)) fun x hx => o x fun e => nd1 (by rw [← e]; simp [hx])
    obtain ⟨mm, s', m', f', ps', h', lw, F2, K2, hh', nz2, u2, ll, lwl, lnd, lll, lps⟩ := mlw_go hD h W d3 k3 (by omega)
    exact ⟨path, l, e0, k, _, mm, kd, its, s', m', f', ps', es1, h', wy, hin0, lp, fd0, C [] _ (stopM ok lz nz Kc.kk F1 (by omega)), d3, lw, ⟨F2.le (by omega), K2⟩, pe, hh', nz2 zz, fun x hx => by rw [u2 x hx, o x fun e => nd1 (by rw [← e]; simp [hx]), u x hx], ll, _, _, _, _, lwl, W, by omega, lnd, fun z => nd1 (by have := lps _ z; simp [this]), by simp, lll, fun x hx => by have := lps x hx; simp [this]⟩
  · have nd1 := (List.nodup_cons.mp F1.ndt).1
    have svE : SvM D kd [] s0 := svM_of (fun _ z => by simp at z) (Nat.zero_le _) kk F1 (by omega)
    have st := DlM.stop (D := D) (path := []) (n := r) (s := s0) (fun _ => rfl) svE (Nat.zero_le _)
    rw [if_pos rfl] at st
    have lz : (encM 3 []).length ≤ 256 := Nat.le_of_ble_eq_true rfl
    have er : gpg (pwr r (pad (encM 3 [])) s0) r = pad (encM 3 []) := gpg_eq _ _ _
    have d3 : DecM D (gpg (pwr r (pad (encM 3 [])) s0) r) 3 [] := .inl ⟨er, .inl rfl, fun _ z => by simp at z, Nat.zero_le _⟩
    have W := F1.write (n := r) (by simp) (pad_len lz)
    refine ⟨path, l, e0, k, _, 0, 3, [], _, m0, f0, [r], [], 0, wy, hin0, lp, fd0, C [] _ st, d3, .done fun z => absurd z.1 (by decide), ⟨W.le (by omega), ⟨3, [], [], rfl, d3, rfl, rfl, rfl⟩⟩, by rw [ee], Nat.zero_le _, by rw [er]; exact encM_nz (by decide), fun x hx => by rw [gpg_ne s0 _ fun e => nd1 (by rw [← e]; exact hx), u x hx], [], _, _, _, _, .done fun z => absurd z.1 (by decide), W, by omega, .nil, by simp, by simp, Nat.zero_le _, fun x hx => by simp at hx⟩
/-! ### sorted of tuples that are told apart by their first numbers -/
def lexL : List Int → List Int → Bool
  | [], [] => false
  | [], _ :: _ => true
  | _ :: _, [] => false
  | a :: as, b :: bs => if a = b then lexL as bs else decide (a < b)
theorem lexL_irr : ∀ a : List Int, lexL a a = false
  | [] => rfl
  | a :: as => by show (if a = a then lexL as as else _) = false; rw [if_pos rfl]; exact lexL_irr as
theorem lexL_asym : ∀ {a b : List Int}, lexL a b = true → lexL b a = false
  | [], [], h => by cases h
  | [], _ :: _, _ => rfl
  | _ :: _, [], h => by cases h
  | a :: as, b :: bs, h => by
    have h : (if a = b then lexL as bs else decide (a < b)) = true := h
    show (if b = a then lexL bs as else decide (b < a)) = false
    by_cases e : a = b
    · rw [if_pos e] at h
      rw [if_pos e.symm]
      exact lexL_asym h
    · rw [if_neg e] at h
      rw [if_neg (fun z => e z.symm)]
      have := of_decide_eq_true h
      exact decide_eq_false (by omega)
theorem lexL_nt : ∀ {a b c : List Int}, lexL b a = false → lexL c b = false → lexL c a = false
  | [], [], c, _, h => h
  | [], _ :: _, [], _, _ => rfl
  | [], _ :: _, _ :: _, _, _ => rfl
  | _ :: _, [], _, h, _ => by cases h
  | _ :: _, _ :: _, [], _, h => by cases h
  | a :: as, b :: bs, c :: cs, h1, h2 => by
    have h1 : (if b = a then lexL bs as else decide (b < a)) = false := h1
    have h2 : (if c = b then lexL cs bs else decide (c < b)) = false := h2
    show (if c = a then lexL cs as else decide (c < a)) = false
    by_cases e1 : b = a
    · rw [if_pos e1] at h1
      by_cases e2 : c = b
      · rw [if_pos e2] at h2
        rw [if_pos (e2.trans e1)]
        exact lexL_nt h1 h2
      · rw [if_neg e2] at h2
        have := of_decide_eq_false h2
        rw [if_neg (fun z => e2 (z.trans e1.symm))]
        exact decide_eq_false (by omega)
    · rw [if_neg e1] at h1
      have z1 := of_decide_eq_false h1
      by_cases e2 : c = b
      · rw [if_neg (fun z => e1 (e2.symm.trans z))]
        exact decide_eq_false (by omega)
      · rw [if_neg e2] at h2
        have z2 := of_decide_eq_false h2
        rw [if_neg (by omega)]
        exact decide_eq_false (by omega)
theorem lexL_tri : ∀ {a b : List Int}, lexL a b = false → lexL b a = false → a = b
  | [], [], _, _ => rfl
  | [], _ :: _, h, _ => by cases h
  | _ :: _, [], _, h => by cases h
  | a :: as, b :: bs, h1, h2 => by
    have h1 : (if a = b then lexL as bs else decide (a < b)) = false := h1
    have h2 : (if b = a then lexL bs as else decide (b < a)) = false := h2
    by_cases e : a = b
    · rw [if_pos e] at h1
      rw [if_pos e.symm] at h2
      rw [e, lexL_tri h1 h2]
    · rw [if_neg e] at h1
      rw [if_neg (fun z => e z.symm)] at h2
      have := of_decide_eq_false h1
      have := of_decide_eq_false h2
      omega
open PySem.Spec PyProof.Rows in
def IsTn (h : Heap) (v : Value) (ks : List Int) : Prop := ∃ a o us r n, v = .ref a ∧ h.get? a = some o ∧ o.cls = .type "tuple" ∧ IntsAre us ks ∧ o.data = .seq (us ++ r).toArray n
open PySem.Spec PyProof.Rows in
theorem IsTn.keeps {h h' : Heap} {v : Value} {ks : List Int} (p : IsTn h v ks) (k : ∀ b o, h.get? b = some o → o.cls = .type "tuple" → h'.get? b = some o) : IsTn h' v ks := by
  obtain ⟨a, o, us, r, n, e, ho, hc, hi, hd⟩ := p
  exact ⟨a, o, us, r, n, e, k _ _ ho hc, hc, hi, hd⟩
section
open PySem.Spec PyProof.Rows SrtO
variable {prog : Program} {w : World} {A : Around} {E : Value → Shared → Prop} {s : Shared}
theorem katn_sames {b fin : Bool} {Q : Bool → Shared → Prop} (h : Q fin s) : ∀ (l : List Value) (i : Nat), PySem.W.KatLex prog w A b fin Q (l.zip l) i s
  | [], _ => PySem.W.kat_nil h
  | v :: l, i => PySem.W.kat_cons (SeqAt.EqAt.same v prog w _ _ (PySem.W.kat_yes (katn_sames h l (i + 1))))
theorem swo_lexL (k : Value → List Int) : Swo fun v u => lexL (k v) (k u) := ⟨fun _ _ h => lexL_asym h, fun _ _ _ h1 h2 => lexL_nt h1 h2⟩
/-- the later ones -/
theorem katn_rest {fin : Bool} {Q : Bool → Shared → Prop} : ∀ {ks ks' : List Int} {us us' r r' : List Value} (i : Nat), IntsAre us ks → IntsAre us' ks' → ks.length = ks'.length → ks ≠ ks' → Q (lexL ks ks') s → PySem.W.KatLex prog w A true fin Q ((us ++ r).zip (us' ++ r')) (i + 1) s
  | [], [], _, _, _, _, _, _, _, _, n, _ => absurd rfl n
  | [], _ :: _, _, _, _, _, _, _, _, l, _, _ => by simp at l
  | _ :: _, [], _, _, _, _, _, _, _, l, _, _ => by simp at l
  | x :: ks, y :: ks', _, _, r, r', i, .cons _ t hi, .cons _ u hi', l, n, q => by
    have q : Q (if x = y then lexL ks ks' else decide (x < y)) s := q
    refine PySem.W.kat_cons (SeqAt.EqAt.int_int x t y u prog w _ _ ?_)
    refine PySem.W.kat_go (fun e => ?_) (fun e => ?_)
    · have ex : x = y := by simpa using e
      rw [if_pos ex] at q
      exact PySem.W.kat_yes (katn_rest (i + 1) hi hi' (by simpa using l) (fun z => n (by rw [ex, z])) q)
    · have ex : ¬ x = y := by simpa using e
      rw [if_neg ex] at q
      exact PySem.W.kat_no (PySem.W.kat_one _ _ (PyProof.Rows.lt_int q))
theorem tn_cmp {vs : List Value} {k : Value → List Int} (hp : ∀ v ∈ vs, IsTn s.heap v (k v)) (h1 : ∀ v ∈ vs, ∀ u ∈ vs, (k v).length = (k u).length) (h0 : ∀ v ∈ vs, k v ≠ []) (hi : ∀ v ∈ vs, ∀ u ∈ vs, k v = k u → v = u) : Cmp prog w A s (tuples' true) (fun p => p.1 ∈ vs) (lt2 fun v u => lexL (k v) (k u)) := by
  intro p q hm hm'
  have g1 := hp _ hm
  have g2 := hp _ hm'
  have gl := h1 _ hm _ hm'
  have gn := h0 _ hm
  show wpAny (model prog w) A (keyLt' (tuples' true) p.1 q.1) (fun r s' => s' = s ∧ r = lexL (k p.1) (k q.1)) (fun _ _ => False) s
  by_cases eq : p.1 = q.1
  · rw [eq] at g1 ⊢
    obtain ⟨a, o, us, r, n, e, ho, hc, _, hd⟩ := g1
    rw [e]
    refine PySem.W.kat_lt ho hd ho hd (katn_sames ⟨rfl, ?_⟩ _ 0)
    rw [lexL_irr]
    exact decide_eq_false (Nat.lt_irrefl _)
  · have hn : k p.1 ≠ k q.1 := fun z => eq (hi _ hm _ hm' z)
    generalize k p.1 = ks at g1 gl gn hn ⊢
    generalize k q.1 = ks' at g2 gl hn ⊢
    obtain ⟨a, o, us, r, n, e, ho, hc, hu, hd⟩ := g1
    obtain ⟨a', o', us', r', n', e', ho', hc', hu', hd'⟩ := g2
    rw [e, e']
    refine PySem.W.kat_lt ho hd ho' hd' ?_
    cases hu with
    | nil => exact absurd rfl gn
    | cons x t hu =>
      cases hu' with
      | nil => simp at gl
      | cons y u hu' =>
        rename_i vs1 ns1 vs2 ns2
        show PySem.W.KatLex prog w A true _ _ ((.int x t, .int y u) :: (_ ++ r).zip (_ ++ r')) 0 s
        refine PySem.W.kat_cons (SeqAt.EqAt.int_int x t y u prog w _ _ ?_)
        refine PySem.W.kat_go (fun e1 => ?_) (fun e1 => ?_)
        · have ex : x = y := by simpa using e1
          have e3 : lexL (x :: ns1) (y :: ns2) = lexL ns1 ns2 := if_pos ex
          rw [e3]
          exact PySem.W.kat_yes (katn_rest 0 hu hu' (by simpa using gl) (fun z => hn (by rw [ex, z])) ⟨rfl, rfl⟩)
        · have ex : ¬ x = y := by simpa using e1
          have e3 : lexL (x :: ns1) (y :: ns2) = decide (x < y) := if_neg ex
          rw [e3]
          exact PySem.W.kat_no (oneLt_int ⟨rfl, rfl⟩)
theorem tn_firsts {h : Heap} : ∀ {vs : List Value}, (∀ v ∈ vs, ∃ ks, ks ≠ [] ∧ IsTn h v ks) → ∃ fs : List Value, PySem.W.KatTups h vs fs ∧ fs.length = vs.length ∧ ∀ f ∈ fs, ∃ x t, f = Value.int x t
  | [], _ => ⟨[], PySem.W.KatTups.nil, rfl, fun _ hm => by simp at hm⟩
  | v :: vs, hp => by
    obtain ⟨fs, h1, h2, h3⟩ := tn_firsts (vs := vs) fun v' hm => hp v' (List.mem_cons_of_mem _ hm)
    obtain ⟨ks, nk, a, o, us, r, n, e, ho, hc, hu, hd⟩ := hp v (List.mem_cons_self ..)
    cases hu with
    | nil => exact absurd rfl nk
    | cons x t hu =>
      subst e
      refine ⟨.int x t :: fs, PySem.W.KatTups.cons ho hc hd rfl h1, by rw [List.length_cons, List.length_cons, h2], fun f hm => ?_⟩
      rcases List.mem_cons.mp hm with rfl | hm
      · exact ⟨x, t, rfl⟩
      · exact h3 f hm
theorem tn_sortable {a : Addr} {vs : List Value} {k : Value → List Int} (hl : 0 < vs.length) (hp : ∀ v ∈ vs, IsTn s.heap v (k v)) (h1 : ∀ v ∈ vs, ∀ u ∈ vs, (k v).length = (k u).length) (h0 : ∀ v ∈ vs, k v ≠ []) (hi : ∀ v ∈ vs, ∀ u ∈ vs, k v = k u → v = u) (ha : ∀ o, s.heap.get? a = some o → o.cls ≠ .type "tuple") :
    SortableO prog w A s a vs fun v u => lexL (k v) (k u) := by
  intro h' keep
  have hp' : ∀ v ∈ vs, IsTn h' v (k v) := fun v hm => (hp v hm).keeps fun b o e c => keep b o (fun z => by subst z; exact ha o e c) e
  obtain ⟨fs, g1, g2, g3⟩ := tn_firsts fun v hm => ⟨_, h0 v hm, hp' v hm⟩
  refine ⟨tuples' true, fun Q E hq => ?_, tn_cmp hp' h1 h0 hi⟩
  refine PySem.W.kat_kind (T := .type "int") g1 (by omega) (fun f hm => ?_) (by rfl) ?_
  · obtain ⟨x, t, rfl⟩ := g3 f hm
    exact PySem.W.Looks.now
  · have e : (Value.type "int" != Value.type "tuple") = true := by first | decide +kernel | rfl | decide
    rw [e]
    exact hq
end
/-- a tuple that begins with the numbers k -/
def KyV (K : PySem.W.Frag) (H : Hp) (m : Nat) (x : V) (k : List Int) : Prop := k.length = m ∧ ∃ t r, x = V.ref t ∧ SqT K H t (k.map V.int ++ r)
/-- sorted(xs), xs a list of tuples whose first numbers tell them apart -/
def rSortN (K : PySem.W.Frag) : List V → Hp → VK → Prop := fun vs H Q => ∃ (a : Addr) (xs : List V) (kss : List (List Int)) (n : Nat), vs = [V.ref a] ∧ SqL K H a xs ∧ Paired (KyV K H (n + 1)) xs kss ∧ kss.Nodup ∧
  ∀ ys p, ys.Perm xs → (∀ kss', Paired (KyV K H (n + 1)) ys kss' → kss'.Pairwise fun x y => lexL y x = false) → H p = none → Q (.ref p) (upd H p (.lst ys))
section
open PySem.Spec PyProof.Rows
variable {X : Cx}
theorem vals_pre : ∀ {ks : List Int} {r : List V} {its : List Value}, Vals (ks.map V.int ++ r) its → ∃ us rr, its = us ++ rr ∧ IntsAre us ks
  | [], r, its, _ => ⟨[], its, rfl, .nil⟩
  | k :: ks, r, _, .cons rk rest => by
    obtain ⟨us, rr, rfl, h⟩ := vals_pre (ks := ks) (r := r) rest
    obtain ⟨t, rfl⟩ := rk
    exact ⟨_ :: us, rr, rfl, .cons k t h⟩
theorem IsTn.uniq {h : Heap} {v : Value} {k k' : List Int} (a : IsTn h v k) (b : IsTn h v k') (l : k.length = k'.length) : k = k' := by
  obtain ⟨p, o, us, r, n, e, ho, _, hu, hd⟩ := a
  obtain ⟨p', o', us', r', n', e', ho', _, hu', hd'⟩ := b
  rw [e] at e'
  cases e'
  rw [ho] at ho'
  cases ho'
  rw [hd] at hd'
  injection hd' with e0 _
  have e1 := List.append_inj (congrArg Array.toList e0) (by simp [hu.length, hu'.length, l])
  have e2 : us = us' := by simpa using e1.1
  clear hd e1 e0 ho e l
  subst e2
  induction hu generalizing k' with
  | nil => cases hu'; rfl
  | cons n t _ ih =>
    cases hu' with
    | cons _ _ g => rw [ih g]
theorem cr_sortedN : CallR X (.builtin "sorted") (rSortN X.K) := by
  intro pins s σ H vs us Q I r h
  obtain ⟨a, xs, kss, n, rfl, hs, hx, hnd, q⟩ := h
  obtain ⟨its, rv, hl, hz⟩ := I.list hs
  obtain ⟨u, rfl, ru⟩ := vals1 r
  obtain rfl : u = Value.ref a := ru
  have refs : ∀ {ws : List V} {ks : List (List Int)}, Paired (KyV X.K H (n + 1)) ws ks → ∀ x ∈ ws, ∃ t, x = V.ref t := fun h => by
    induction h with
    | nil => intro x hx; cases hx
    | cons r _ ih =>
      intro x hx
      rcases List.mem_cons.mp hx with rfl | hx
      · obtain ⟨_, t, _, e, _⟩ := r
        exact ⟨t, e⟩
      · exact ih x hx
  obtain ⟨e1, e2⟩ := refs_back rv (refs hx)
  have toT : ∀ {v : Value} {k : List Int}, (∃ t, v = Value.ref t) → KyV X.K H (n + 1) (backV v) k → k.length = n + 1 ∧ IsTn s.heap v k := fun {v k} ht hk => by
    obtain ⟨t, rfl⟩ := ht
    obtain ⟨lk, t', r, e, ht⟩ := hk
    cases e
    obtain ⟨its2, r2, ⟨o, ho, hc, m, hd⟩, _⟩ := I.tuple ht
    obtain ⟨us, rr, rfl, hu⟩ := vals_pre r2
    exact ⟨lk, _, o, us, rr, m, rfl, ho, hc, hu, hd⟩
  rw [e1] at hx
  have al : ∀ {vs : List Value} {ks : List (List Int)}, (∀ v ∈ vs, ∃ t, v = Value.ref t) → Paired (KyV X.K H (n + 1)) (vs.map backV) ks → Paired (fun v k => k.length = n + 1 ∧ IsTn s.heap v k) vs ks := fun {vs} => by
    induction vs with
    | nil => intro ks _ h; cases h; exact .nil
    | cons v vs ih =>
      intro ks hr h
      cases h with
      | cons r t => exact .cons (toT (hr v (by simp)) r) (ih (fun x hx => hr x (by simp [hx])) t)
  have hp := al e2 hx
  classical
  obtain ⟨kf, hkf⟩ : ∃ kf : Value → List Int, ∀ v k, k.length = n + 1 → IsTn s.heap v k → kf v = k :=
    ⟨fun v => if h : ∃ k, k.length = n + 1 ∧ IsTn s.heap v k then h.choose else [], fun v k l t => by
      have h : ∃ k, k.length = n + 1 ∧ IsTn s.heap v k := ⟨k, l, t⟩
      show (if h : ∃ k, k.length = n + 1 ∧ IsTn s.heap v k then h.choose else []) = k
      rw [dif_pos h]
      exact h.choose_spec.2.uniq t (h.choose_spec.1.trans l.symm)⟩
  have memK : ∀ {vs : List Value} {ks : List (List Int)}, Paired (fun v k => k.length = n + 1 ∧ IsTn s.heap v k) vs ks → (∀ v ∈ vs, (kf v) ∈ ks ∧ (kf v).length = n + 1 ∧ IsTn s.heap v (kf v)) ∧ (ks.Nodup → ∀ v ∈ vs, ∀ u ∈ vs, kf v = kf u → v = u) := fun h => by
    induction h with
    | nil => exact ⟨fun v hv => (by cases hv), fun _ v hv => (by cases hv)⟩
    | cons r _ ih =>
      rename_i v0 vs' k0 ks'
      have e0 := hkf _ _ r.1 r.2
      refine ⟨fun v hv => ?_, fun nd v hv u hu e => ?_⟩
      · rcases List.mem_cons.mp hv with rfl | hv
        · rw [e0]; exact ⟨by simp, r⟩
        · obtain ⟨a, b⟩ := ih.1 v hv
          exact ⟨by simp [a], b⟩
      · rw [List.nodup_cons] at nd
        rcases List.mem_cons.mp hv with q1 | q1
        · rcases List.mem_cons.mp hu with q2 | q2
          · rw [q1, q2]
          · exact absurd (by rw [← e0, ← q1, e]; exact (ih.1 u q2).1) nd.1
        · rcases List.mem_cons.mp hu with q2 | q2
          · exact absurd (by rw [← e0, ← q2, ← e]; exact (ih.1 v q1).1) nd.1
          · exact ih.2 nd.2 v q1 u q2 e
  obtain ⟨m1, m2⟩ := memK hp
  have m2 := m2 hnd
  refine SrtO.sorted_ord (swo_lexL kf) hl.isList (by rw [← rv.length]; exact hz) (fun h2 h₁ a' ha' kk => ?_) fun out h1 h2 => ?_
  · refine tn_sortable (s := { s with heap := h₁ }) (k := kf) (by omega) (fun v hm => (m1 v hm).2.2.keeps fun b o e _ => (kk b o e).2) (fun v hv u hu => (m1 v hv).2.1.trans (m1 u hu).2.1.symm) (fun v hv z => ?_) m2 fun o e => ?_
    · have := (m1 v hv).2.1
      rw [z] at this
      cases this
    · have e' : some o = some (seqObj "list" its.toArray 0) := e.symm.trans ha'
      cases e'
      intro c
      exact absurd (Value.type.inj c) (by decide)
  · have mo : ∀ u ∈ out, u ∈ its := fun u hu => h2.perm.mem_iff.mp hu
    have h3 : ∀ u ∈ out, ∃ a, u = Value.ref a := fun u hu => e2 u (mo u hu)
    obtain ⟨n', hn⟩ := PyProof.Rows.sortedAll_at s.heap its out.toArray
    have hb : (out.map backV).Perm xs := by
      rw [e1]
      exact h2.perm.map backV
    refine ⟨.ref _, upd H _ (.lst (out.map backV)), I.laid (t' := s.toks) (fun _ _ e => PyProof.Rows.sortedAll_old e) (Nat.le_succ _) ⟨?_, out, n', vals_back h3, hn⟩, rfl, q _ _ hb (fun kss' pk => ?_) (I.hok.fresh (Nat.le_succ _))⟩
    · rw [hb.length_eq]
      exact hz
    · have pk' := al h3 pk
      have ek : ∀ {vs : List Value} {ks : List (List Int)}, Paired (fun v k => k.length = n + 1 ∧ IsTn s.heap v k) vs ks → ks = vs.map kf := fun h => by
        induction h with
        | nil => rfl
        | cons r _ ih => rw [List.map_cons, hkf _ _ r.1 r.2, ← ih]
      rw [ek pk', List.pairwise_map]
      exact h1
end
/-- the sorted items: those that a list of ours has, in this order -/
theorem x_srtN {K : PySem.W.Frag} {H : Hp} {Q : VK} {α : Type} {R : Hp → V → α → Prop} (key : α → List Int) {n : Nat} {a : Addr} {ws : List V} {xs : List α} (hs : SqL K H a ws) (hw : Paired (R H) ws xs) (hk : ∀ v x, R H v x → KyV K H (n + 1) v (key x))
    (nd : (xs.map key).Nodup) (kp : ∀ H' v x, Kp F0 H H' → R H v x → R H' v x)
    (q : ∀ ys p H' zs, zs.Perm xs → zs.Pairwise (fun x y => lexL (key y) (key x) = false) → H p = none → Kp F0 H H' → H' p = some (.lst ys) → Paired (R H') ys zs → Q (.ref p) H') : rSortN K [.ref a] H Q := by
  have toK : ∀ {ws : List V} {xs : List α}, Paired (R H) ws xs → Paired (KyV K H (n + 1)) ws (xs.map key) := fun h => by
    induction h with
    | nil => exact .nil
    | cons r _ ih => exact .cons (hk _ _ r) ih
  refine ⟨a, ws, xs.map key, n, rfl, hs, toK hw, nd, fun ys p h2 so hp => ?_⟩
  have lift : ∀ {ys ws : List V}, ys.Perm ws → ∀ {xs : List α}, Paired (R H) ws xs → ∃ zs : List α, zs.Perm xs ∧ Paired (R H) ys zs := fun pm => by
    induction pm with
    | nil => intro xs h; exact ⟨xs, .refl _, h⟩
    | cons v _ ih =>
      intro xs h
      cases h with
      | cons r t =>
        obtain ⟨zs, pz, hz⟩ := ih t
        exact ⟨_ :: zs, pz.cons _, .cons r hz⟩
    | swap v u l =>
      intro xs h
      cases h with
      | cons r t =>
        cases t with
        | cons r2 t2 => exact ⟨_ :: _ :: _, List.Perm.swap _ _ _, .cons r2 (.cons r t2)⟩
    | trans _ _ ih1 ih2 =>
      intro xs h
      obtain ⟨z1, p1, h1⟩ := ih2 h
      obtain ⟨z2, p2, h2⟩ := ih1 h1
      exact ⟨z2, p2.trans p1, h2⟩
  obtain ⟨zs, pz, hz⟩ := lift h2 hw
  have sz := so _ (toK hz)
  rw [List.pairwise_map] at sz
  exact q ys p _ zs pz sz hp (Kp.new hp) upd_same (hz.mono fun v x r => kp _ v x (Kp.new hp) r)
/-! ### the first n in an order -/
theorem pr_lift {α β : Type} {R : α → β → Prop} : ∀ {ys ws : List α}, ys.Perm ws → ∀ {xs : List β}, Paired R ws xs → ∃ zs : List β, zs.Perm xs ∧ Paired R ys zs := fun pm => by
  induction pm with
  | nil => intro xs h; exact ⟨xs, .refl _, h⟩
  | cons v _ ih =>
    intro xs h
    cases h with
    | cons r t =>
      obtain ⟨zs, pz, hz⟩ := ih t
      exact ⟨_ :: zs, pz.cons _, .cons r hz⟩
  | swap v u l =>
    intro xs h
    cases h with
    | cons r t =>
      cases t with
      | cons r2 t2 => exact ⟨_ :: _ :: _, List.Perm.swap _ _ _, .cons r2 (.cons r t2)⟩
  | trans _ _ ih1 ih2 =>
    intro xs h
    obtain ⟨z1, p1, h1⟩ := ih2 h
    obtain ⟨z2, p2, h2⟩ := ih1 h1
    exact ⟨z2, p2.trans p1, h2⟩
section
variable {α : Type} (key : α → List Int)
/-- x may stand ahead of y -/
abbrev LeK (x y : α) : Prop := lexL (key y) (key x) = false
def SrK (l : List α) : Prop := l.Pairwise (LeK key)
def BestN (n : Nat) (S T : List α) : Prop := ∃ rest, (T ++ rest).Perm S ∧ SrK key T ∧ (∀ t ∈ T, ∀ r ∈ rest, LeK key t r) ∧ T.length ≤ n ∧ (T.length = n ∨ rest = [])
variable {key}
theorem BestN.nil (n : Nat) : BestN key n [] ([] : List α) := ⟨[], .refl _, .nil, fun _ h => by simp at h, Nat.zero_le _, .inr rfl⟩
theorem BestN.perm {n : Nat} {S S' T : List α} (h : BestN key n S T) (p : S.Perm S') : BestN key n S' T := by
  obtain ⟨r, h1, h2⟩ := h
  exact ⟨r, h1.trans p, h2⟩
theorem BestN.prune {n : Nat} {S R T : List α} (h : BestN key n S T) (l : T.length = n) (hR : ∀ t ∈ T, ∀ r ∈ R, LeK key t r) : BestN key n (S ++ R) T := by
  obtain ⟨r, h1, h2, h3, h4, h5⟩ := h
  refine ⟨r ++ R, by rw [← List.append_assoc]; exact h1.append_right R, h2, fun t ht x hx => ?_, h4, .inl l⟩
  rcases List.mem_append.mp hx with hx | hx
  · exact h3 t ht x hx
  · exact hR t ht x hx
theorem BestN.step {n : Nat} {S N T Z : List α} (h : BestN key n S T) (pz : Z.Perm (T ++ N)) (sz : SrK key Z) : BestN key n (S ++ N) (Z.take n) := by
  obtain ⟨rest, h1, h2, h3, h4, h5⟩ := h
  have split : Z.take n ++ Z.drop n = Z := List.take_append_drop n Z
  have sz' : SrK key (Z.take n ++ Z.drop n) := by rw [split]; exact sz
  obtain ⟨s1, s2, s3⟩ := List.pairwise_append.mp sz'
  have lz := pz.length_eq
  rw [List.length_append] at lz
  refine ⟨Z.drop n ++ rest, ?_, s1, fun t ht r hr => ?_, by rw [List.length_take]; omega, ?_⟩
  · rw [← List.append_assoc, split]
    refine (pz.append_right rest).trans ?_
    rw [List.append_assoc]
    refine ((List.perm_append_comm (l₁ := N) (l₂ := rest)).append_left T).trans ?_
    rw [← List.append_assoc]
    exact h1.append_right N
  · rcases List.mem_append.mp hr with hr | hr
    · exact s3 t ht r hr
    · have ne : rest ≠ [] := fun z => by rw [z] at hr; cases hr
      have lT : T.length = n := h5.resolve_right ne
      cases c : lexL (key r) (key t) with
      | false => exact c
      | true =>
        exfalso
        have all : ∀ x ∈ T, lexL (key x) (key t) = true := fun x hx => by
          cases q : lexL (key x) (key t) with
          | true => rfl
          | false =>
            have := lexL_nt q (h3 x hx r hr)
            rw [c] at this
            cases this
        have c1 : (T ++ N).countP (fun x => lexL (key x) (key t)) = Z.countP fun x => lexL (key x) (key t) := (pz.countP_eq _).symm
        have c2 : T.countP (fun x => lexL (key x) (key t)) = T.length := List.countP_eq_length.mpr all
        have c3 : (Z.drop n).countP (fun x => lexL (key x) (key t)) = 0 := List.countP_eq_zero.mpr fun x hx => by
          have := s3 t ht x hx
          unfold LeK at this
          rw [this]
          exact Bool.false_ne_true
        have c4 : Z.countP (fun x => lexL (key x) (key t)) = (Z.take n).countP (fun x => lexL (key x) (key t)) := by
          conv => lhs; rw [← split]
          rw [List.countP_append, c3, Nat.add_zero]
        rw [List.countP_append, c2, c4] at c1
        have c5 := List.countP_le_length (p := fun x => lexL (key x) (key t)) (l := Z.take n)
        have c6 : (Z.take n).length ≤ n := by rw [List.length_take]; omega
        have c7 : (Z.take n).countP (fun x => lexL (key x) (key t)) = (Z.take n).length := by omega
        have := List.countP_eq_length.mp c7 t ht
        rw [lexL_irr] at this
        cases this
  · by_cases q : n ≤ Z.length
    · left; rw [List.length_take]; omega
    · right
      have : rest = [] := h5.resolve_left (by omega)
      rw [this, List.drop_eq_nil_of_le (by omega)]; rfl
theorem LeK.trans {x y z : α} (a : LeK key x y) (b : LeK key y z) : LeK key x z := lexL_nt a b
theorem sr_exists (l : List α) : ∃ z : List α, z.Perm l ∧ SrK key z := by
  refine ⟨l.mergeSort fun x y => !lexL (key y) (key x), List.mergeSort_perm _ _, ?_⟩
  have := List.pairwise_mergeSort (le := fun x y => !lexL (key y) (key x)) (fun a b c h1 h2 => ?_) (fun a b => ?_) l
  · refine this.imp fun {x y} h => ?_
    cases c : lexL (key y) (key x) with
    | false => exact c
    | true => rw [c] at h; cases h
  · rw [Bool.not_eq_true'] at h1 h2 ⊢
    exact lexL_nt h1 h2
  · cases c : lexL (key b) (key a) with
    | false => rfl
    | true => rw [lexL_asym c]; rfl
theorem sr_uniq : ∀ {a b : List α}, a.Perm b → SrK key a → SrK key b → (a.map key).Nodup → a = b
  | [], b, p, _, _, _ => List.Perm.nil_eq p
  | x :: a, [], p, _, _, _ => absurd p.length_eq (by simp)
  | x :: a, y :: b, p, h, g, nd => by
    have inj : ∀ u ∈ x :: a, key u = key x → u = x := fun u hu e => by
      rcases List.mem_cons.mp hu with e' | hu
      · exact e'
      · rw [List.map_cons, List.nodup_cons] at nd
        exact absurd (List.mem_map.mpr ⟨u, hu, e⟩) nd.1
    have e : y = x := by
      have h' := List.pairwise_cons.mp h
      have g' := List.pairwise_cons.mp g
      have m1 := p.mem_iff.mp (List.mem_cons_self (a := x) (l := a))
      have m2 := p.mem_iff.mpr (List.mem_cons_self (a := y) (l := b))
      rcases List.mem_cons.mp m1 with e | m1
      · exact e.symm
      · rcases List.mem_cons.mp m2 with e | m2
        · exact e
        · exact inj y (by simp [m2]) (lexL_tri (g'.1 x m1) (h'.1 y m2) |>.symm)
    subst e
    rw [List.map_cons, List.nodup_cons] at nd
    rw [sr_uniq p.cons_inv (List.pairwise_cons.mp h).2 (List.pairwise_cons.mp g).2 nd.2]
theorem BestN.take {n : Nat} {S T Z : List α} (h : BestN key n S T) (pz : Z.Perm S) (sz : SrK key Z) (nd : (S.map key).Nodup) : T = Z.take n := by
  obtain ⟨rest, h1, h2, h3, h4, h5⟩ := h
  obtain ⟨R, pr, sr⟩ := sr_exists (key := key) rest
  have e : T ++ R = Z := by
    refine sr_uniq ((pr.append_left T).trans (h1.trans pz.symm)) (List.pairwise_append.mpr ⟨h2, sr, fun t ht r hr => h3 t ht r (pr.mem_iff.mp hr)⟩) sz ?_
    exact (((pr.append_left T).trans h1).map key).nodup_iff.mpr nd
  rw [← e]
  rcases h5 with h5 | h5
  · rw [List.take_left' h5]
  · subst h5
    rw [List.perm_nil.mp pr, List.append_nil, List.take_of_length_le h4]
end
/-! ### the law's rule, made in the law -/
section
variable {P : Program} {w : World} {K : PySem.W.Frag} {mg : Str → Option Value} {base : Heap} {c : Cl}
/-- the rule: share of what the key and the begin tell -/
def accR (sh : Int) (k b : Int) : Bool := decide ((k + 3 * b) * 7 % 4 ≥ sh)
abbrev s_cb : Stmt := s_law__law_accepts
abbrev fr_cb : List Str := fr_law__law_accepts
abbrev qn_cb : Str := qn_law__law_accepts
abbrev nm_cb : Str := "_law_accepts"
abbrev ps_cb : List Str := ["_law_key", "_law_begin"]
def sp_cb (ws : List (Option V)) : Sp := fun vs H Q _ => ∃ (k b sh : Int) (al : Addr) (avs : List V), vs = [.int k, .int b] ∧ ws = [some (.int sh), some (.ref al)] ∧ H al = some (.lst avs) ∧ avs.length < 1000000 ∧ 0 ≤ k ∧ k < 256 ^ 4 ∧ 0 ≤ b ∧ b < 256 ^ 4 ∧
  ∀ H' t, H' al = some (.lst (avs ++ [.ref t])) → H' t = some (.tup [.int k, .int b]) → H t = none → Kp (F1 al) H H' → Q (.bl (accR sh k b)) H'
theorem nok_cb (T : Txt K mg c) (f : Addr) (cl : List (Str × Addr)) (c' : Addr) : NdefX.NOk P w K mg base CX0 1 f (NdefX.NF.of s_cb nm_cb qn_cb cl c') ps_cb fr_cb sp_cb := by
  refine NdefX.nok_of (N := ["_law_key", "_law_begin", "_law_share", "_law_asked"]) sc_law__law_accepts (fun doc pm ctv us hl => match us, hl with | [_, _], _ => rfl) ?_ (fun A outer s H vs ws Q E hr hf hc hl h => ?_)
  · rintro ws vs H Q E ⟨_, _, _, _, _, rfl, _⟩
    rfl
  · obtain ⟨k, b, sh, al, avs, rfl, rfl, hal, lav, k0, k1, b0, b1, q⟩ := h
    refine ⟨_, PSs.nox (pss_cons (ps_expr (pe_kBM rfl (pe_bm PySem.F.plainAttrs_list PySem.F.slot_list_append PySem.F.type_list_append mt_append (pv 3) (pa_cons (pe_tup (pa_cons (pv 0) (pa_cons (pv 1) pa_nil))) pa_nil))))
      (pss_one (ps_ret (pe_cmpR op_ge (pe_op op_mod (pe_callTy c_int (by rfl) T.z_int (by decide +kernel) (pa_cons (pe_op op_mul (pe_op op_add (pv 0) (pe_op op_mul pe_int (pv 1))) pe_int) pa_nil)) pe_int) (pv 2) (nomark _))))), ?_⟩
    dsimp only [NdefX.startF]
    walk_at "cx"
    walk_at "rd"
    refine x_newT fun t H1 ht k1 e1 => ?_
    have hal1 := k1.get hal id
    walk_at "rd"
    refine x_app hal1 (by omega) fun H2 e2 k2 => ?_
    have nt : t ≠ al := (ne_of_none hal ht).symm
    walk_at "rd"
    refine q H2 t e2 (k2.get e1 nt) ht ((k1.mono fun _ z => z.elim).trans k2 fun _ z => .inl z)
end
/-! ### the nearest items -/
theorem cut_toA {xs : List V} (j : Nat) : cutV xs none (some (j : Int)) = xs.take j := by
  by_cases h : j ≤ xs.length
  · exact cutW_to h
  · unfold cutV
    rw [HT.sIx_none, HT.sIx_nat, List.drop_zero, Nat.sub_zero, Nat.min_eq_right (by omega), List.take_of_length_le (Nat.le_refl _), List.take_of_length_le (by omega)]
structure Wt where
  b : Int
  n : Int
  h : Nat
  ps : List Int
  es : List Mt
structure WtOk (D : Nat) (m : Str) (v : Int → List Int) (pt : List Int) (e : Wt) : Prop where
  k : MT D m v e.h e.n e.ps e.es
  b : ∀ x ∈ e.es, e.b ≤ dist m pt x.p
def wsum (W : List Wt) : Nat := (W.map fun e => e.ps.length).sum
theorem wsum_perm {W W' : List Wt} (p : W.Perm W') : wsum W = wsum W' := by
  unfold wsum
  induction p with
  | nil => rfl
  | cons x _ ih => rw [List.map_cons, List.map_cons, List.sum_cons, List.sum_cons, ih]
  | swap x y l => simp only [List.map_cons, List.sum_cons]; omega
  | trans _ _ a b => rw [a, b]
theorem wsum_app (W W' : List Wt) : wsum (W ++ W') = wsum W + wsum W' := by unfold wsum; rw [List.map_append, List.sum_append]
theorem wsum_ge {D : Nat} {m : Str} {v : Int → List Int} {pt : List Int} {W : List Wt} (h : ∀ e ∈ W, WtOk D m v pt e) : W.length ≤ wsum W := by
  induction W with
  | nil => exact Nat.le_refl _
  | cons e W ih =>
    obtain ⟨_, _, ps', q, _⟩ := (h e (by simp)).k
    have h1 := ih fun x hx => h x (by simp [hx])
    have h2 : wsum (e :: W) = e.ps.length + wsum W := rfl
    rw [h2, q, List.length_cons, List.length_cons]
    omega
theorem wes_perm {W W' : List Wt} (p : W.Perm W') : (W.flatMap (·.es)).Perm (W'.flatMap (·.es)) := by
  induction p with
  | nil => exact .refl _
  | cons x _ ih => rw [List.flatMap_cons, List.flatMap_cons]; exact ih.append_left _
  | swap x y l =>
    rw [List.flatMap_cons, List.flatMap_cons, List.flatMap_cons, List.flatMap_cons, ← List.append_assoc, ← List.append_assoc]
    exact List.perm_append_comm.append_right _
  | trans _ _ a b => exact a.trans b
def kidB (m : Str) (pt : List Int) (ch : Mt) : Int := max 0 (dist m pt ch.p - ch.x)
theorem MSeg.wts {D : Nat} {m : Str} {v : Int → List Int} {h : Nat} {B : Int} {pt : List Int} (lp : pt.length = D) : ∀ {cs : List Mt} {ps : List Int} {es : List Mt}, (∀ c ∈ cs, MtOk D c) → MSeg (MT D m v h) m B cs ps es →
    ∃ W : List Wt, Paired (fun (ch : Mt) (e : Wt) => e.b = kidB m pt ch ∧ e.n = ch.y) cs W ∧ (∀ e ∈ W, WtOk D m v pt e) ∧ W.flatMap (·.es) = es ∧ wsum W = ps.length
  | [], ps, es, _, ⟨e1, e2⟩ => ⟨[], .nil, fun _ h => (by cases h), e2.symm, by rw [e1]; rfl⟩
  | ch :: cs, ps, es, ok, sg => by
    obtain ⟨p1, p2, e1, e2, rfl, rfl, bl, r, s⟩ := sg
    obtain ⟨W, h1, h2, h3, h4⟩ := MSeg.wts lp (fun x hx => ok x (by simp [hx])) s
    have r' : MT D m v h ch.y p1 e1 := r
    refine ⟨⟨kidB m pt ch, ch.y, h, p1, e1⟩ :: W, .cons ⟨rfl, rfl⟩ h1, fun e he => ?_, by rw [List.flatMap_cons, h3], ?_⟩
    · rcases List.mem_cons.mp he with rfl | he
      · refine ⟨r', fun x hx => ?_⟩
        have lc := (ok ch (by simp)).l
        have lx := (r'.ok x hx).l
        have t := dist_tri (m := m) (a := pt) (b := x.p) (c := ch.p) (by omega) (by omega)
        have cc := bl.c x hx
        rw [dist_comm] at cc
        have := dist_nn m pt x.p
        show max 0 (dist m pt ch.p - ch.x) ≤ _
        omega
      · exact h2 e he
    · have : wsum (⟨kidB m pt ch, ch.y, h, p1, e1⟩ :: W) = p1.length + wsum W := rfl
      rw [this, h4, List.length_append]
def kyM (x : Mt) : Int × Int := (x.x, x.y)
/-- a pair of a bound and a page -/
def WtV (H : Hp) (v : V) (e : Wt) : Prop := ∃ t, v = .ref t ∧ H t = some (.tup [.int e.b, .int e.n])
theorem WtV.kp {F : Addr → Prop} {H H' : Hp} {v : V} {e : Wt} (k : Kp F H H') (h : WtV H v e) : WtV H' v e := by
  obtain ⟨t, rfl, h⟩ := h
  exact ⟨t, rfl, k.tup h⟩
/-- what is found: its distance, its numbers, its point -/
def FdV (K : PySem.W.Frag) (m : Str) (pt : List Int) (H : Hp) (v : V) (it : Mt) : Prop := ∃ t q, v = .ref t ∧ H t = some (.tup [.int (dist m pt it.p), .int it.x, .int it.y, .ref q]) ∧ SqT K H q (it.p.map V.int)
theorem FdV.kp {K : PySem.W.Frag} {m : Str} {pt : List Int} {F : Addr → Prop} {H H' : Hp} {v : V} {it : Mt} (k : Kp F H H') (h : FdV K m pt H v it) : FdV K m pt H' v it := by
  obtain ⟨t, q, rfl, h, h2⟩ := h
  exact ⟨t, q, rfl, k.tup h, k.sqT h2⟩
def fkey (m : Str) (pt : List Int) (it : Mt) : List Int := [dist m pt it.p, it.x, it.y]
theorem fkey_nd {m : Str} {pt : List Int} {l : List Mt} (h : (l.map kyM).Nodup) : (l.map (fkey m pt)).Nodup := by
  unfold List.Nodup at h ⊢
  rw [List.pairwise_map] at h ⊢
  refine h.imp fun {x y} n e => n ?_
  unfold fkey at e
  simp only [List.cons.injEq] at e
  exact Prod.ext e.2.1 e.2.2.1
theorem lexL_fst {a b : Int} {x y : List Int} (h : lexL (a :: x) (b :: y) = false) : b ≤ a := by
  have h : (if a = b then lexL x y else decide (a < b)) = false := h
  split at h
  · omega
  · have := of_decide_eq_false h
    omega
theorem lexL_lt {a b : Int} {x y : List Int} (h : b < a) : lexL (a :: x) (b :: y) = false := by
  show (if a = b then lexL x y else decide (a < b)) = false
  rw [if_neg (by omega)]
  exact decide_eq_false (by omega)
/-- the pairs that stand in a heap -/
def pairAt (H : Hp) : V → Int × Int
  | .ref t => match H t with
    | some (.tup [.int x, .int y]) => (x, y)
    | _ => (0, 0)
  | _ => (0, 0)
theorem pairAt_eq {H : Hp} {v : V} {e : Wt} (h : WtV H v e) : pairAt H v = (e.b, e.n) := by
  obtain ⟨t, rfl, h⟩ := h
  show (match H t with | some (.tup [.int x, .int y]) => (x, y) | _ => (0, 0)) = _
  rw [h]
theorem pr_refs {H : Hp} : ∀ {ws : List V} {W : List Wt}, Paired (WtV H) ws W → ∀ y ∈ ws, ∃ t, y = V.ref t ∧ H t = some (.tup [.int (pairAt H y).1, .int (pairAt H y).2])
  | _, _, .cons r t, y, hy => by
    rcases List.mem_cons.mp hy with rfl | hy
    · rw [pairAt_eq r]
      exact r
    · exact pr_refs t y hy
theorem x_cbk {f : Addr} {F : NdefX.NF} {i : Nat} {ws : List (Option V)} {sp : List (Option V) → Sp} {t : TA} {σ : L2.St} {H : Hp} {Q : VK} (h1 : σ[i]? = some (some (.ref f))) (h2 : H f = some (NdefX.FnO f F)) (h : t σ H fun vs H1 => H1 f = some (NdefX.FnO f F) ∧ H1 F.c = some (LamX.CodeO F.c F.qual) ∧ sp ws vs H1 Q E0) : tCb f F i ws sp t σ H Q := ⟨h1, h2, h⟩
section
variable {P : Program} {w : World} {K : PySem.W.Frag} {mg : Str → Option Value} {base : Heap} {c : Cl}
/-- what the rule that is handed in promises of the items of the tree -/
structure AccS (c : Cl) (K : PySem.W.Frag) (H : Hp) (mt pg q : Addr) (r : Int) (D : Nat) (met : Str) (O Od : Addr → Prop) (s : PgS) (es : List Mt) (p : CbP) (acc : Mt → Bool) (J : List Mt → Hp → Prop) (Gc : Addr → Prop) : Prop where
  F : ∃ cl c', p.F = NdefX.NF.of s_cb nm_cb qn_cb cl c'
  j0 : J [] H
  jw : ∀ A H1, J A H1 → MW c H1 mt pg q r D met O Od s ∧ H1 p.f = some (NdefX.FnO p.f p.F) ∧ H1 p.F.c = some (LamX.CodeO p.F.c p.F.qual)
  jk : ∀ A (G : Addr → Prop) H1 H2, J A H1 → Kp G H1 H2 → (∀ b, G b → H b = none) → J A H2
  jg : ∀ A H1 b, J A H1 → Gc b → ∃ o, H1 b = some o
  cb : ∀ A H1 it Q, J A H1 → it ∈ es → A.length < es.length → (∀ H2, J (A ++ [it]) H2 → Kp Gc H1 H2 → Q (.bl (acc it)) H2) → sp_cb p.ws [.int it.x, .int it.y] H1 Q E0
theorem fnd_nd {key : Mt → List Int} {n : Nat} {acc : Mt → Bool} {seen e1 E F es : List Mt} (b : BestN key n (seen.filter acc) F) (pe : (seen ++ (e1 ++ E)).Perm es) (nd : (es.map kyM).Nodup) : ((F ++ e1.filter acc).map kyM).Nodup := by
  obtain ⟨rest, h1, _⟩ := b
  have n1 := (pe.map kyM).nodup_iff.mpr nd
  rw [List.map_append, List.map_append, List.nodup_append] at n1
  obtain ⟨n2, n3, n4⟩ := n1
  rw [List.nodup_append] at n3
  have n5 : ((F ++ rest).map kyM).Nodup := (h1.map kyM).nodup_iff.mpr (List.Nodup.sublist (List.filter_sublist.map kyM) n2)
  rw [List.map_append, List.nodup_append] at n5
  rw [List.map_append, List.nodup_append]
  refine ⟨n5.1, List.Nodup.sublist (List.filter_sublist.map kyM) n3.1, fun a ha x hx => ?_⟩
  obtain ⟨y, hy, rfl⟩ := List.mem_map.mp ha
  obtain ⟨z, hz, rfl⟩ := List.mem_map.mp hx
  have hy' := (List.mem_filter.mp (h1.mem_iff.mp (List.mem_append_left _ hy))).1
  have hz' := (List.mem_filter.mp hz).1
  exact n4 _ (List.mem_map.mpr ⟨y, hy', rfl⟩) _ (List.mem_append_left _ (List.mem_map.mpr ⟨z, hz', rfl⟩))
theorem FdV.ky {K : PySem.W.Frag} {m : Str} {pt : List Int} {H : Hp} {v : V} {it : Mt} (h : FdV K m pt H v it) : KyV K H (2 + 1) v (fkey m pt it) := by
  obtain ⟨t, q, e, ht, _⟩ := h
  exact ⟨rfl, t, [.ref q], e, SqT.of ht⟩
theorem pr_tk {α β : Type} {R : α → β → Prop} : ∀ {l : List α} {m : List β} (n : Nat), Paired R l m → Paired R (l.take n) (m.take n)
  | _, _, 0, _ => by rw [List.take_zero, List.take_zero]; exact .nil
  | _, _, _ + 1, .nil => .nil
  | _, _, n + 1, .cons r t => .cons r (pr_tk n t)
def sp_MetricTree_nearest (c : Cl) (K : PySem.W.Frag) (p : CbP) : Sp := fun vs H Q _ => ∃ (mt pq pg q : Addr) (r : Int) (D cnt h : Nat) (met : Str) (pt ps : List Int) (es : List Mt) (O Od : Addr → Prop) (s : PgS) (acc : Mt → Bool) (J : List Mt → Hp → Prop) (Gc : Addr → Prop),
  vs = [.ref mt, .ref pq, .int (cnt : Nat), .ref p.f] ∧ SqT K H pq (pt.map V.int) ∧ pt.length = D ∧ 0 < D ∧ D ≤ 8 ∧ 1 ≤ cnt ∧ cnt ≤ 1000000 ∧ MT D met (gpg s) h r ps es ∧ ps.length ≤ 400000 ∧ (es.map kyM).Nodup ∧ es.length ≤ 100000 ∧
  AccS c K H mt pg q r D met O Od s es p acc J Gc ∧
  ∀ H' fl fvs F A, J A H' → (A.length ≤ es.length ∧ ∀ it ∈ A, it ∈ es) → Kp Gc H H' → H fl = none → H' fl = some (.lst fvs) → Paired (FdV K met pt H') fvs F → BestN (fkey met pt) cnt (es.filter acc) F → Q (.ref fl) H'
theorem ok_MetricTree_nearest (T : Txt K mg c) : GMR P w K mg base 5 c.MetricTree "nearest" (HandR fr_cb) (sp_MetricTree_nearest c K) := by
  obtain ⟨f, fd, F, gf, gi⟩ := T.f_MetricTree_nearest
  obtain ⟨_, mg_INNER⟩ := T.m_INNER
  have tc_MetricTree := T.cl_MetricTree; have tn_MetricTree_pager := T.n_MetricTree_pager; have tn_MetricTree_root := T.n_MetricTree_root; have tn_MetricTree_dimensions := T.n_MetricTree_dimensions; have tn_MetricTree_metric := T.n_MetricTree_metric
  refine ⟨f, fd, ["self", "point", "count", "accepts"], okR F sc_MetricTree_nearest ?_ (fun p cdv A outer s0 H vs Q E hr hand h => ?_), ⟨gf, gi, F.kp⟩, (F.binds (ps := ["self", "point", "count", "accepts"]) fun _ _ _ _ _ _ us hl => match us, hl with | [_, _, _, _], _ => rfl)⟩
  · rintro p vs H Q E ⟨_, _, _, _, _, _, _, _, _, _, _, _, _, _, _, _, _, _, rfl, _⟩
    rfl
  · obtain ⟨mt, pq, pg, q, r, D, cnt, h0, met, pt, ps0, es, O, Od, s, acc, J, Gc, rfl, hpq, lpt, D0, hD, c1, c2, K0, lps, knd, les, AC, k⟩ := h
    have hcbk : NdefX.NOk P w K mg base CX0 1 p.f p.F ps_cb fr_cb sp_cb := by
      obtain ⟨cl, c', e⟩ := AC.F
      rw [e]
      exact nok_cb T _ cl c'
    refine ⟨_, (pss_cons (ps_set (i := 4) sc_MetricTree_nearest.nd rfl (Or.inl rfl) (pe_lst pa_nil))
      (pss_cons (ps_set (i := 5) sc_MetricTree_nearest.nd rfl (Or.inl rfl) (pe_lst (pa_cons (pe_tup (pa_cons pe_int (pa_cons (pe_fldK rfl (pv 0)) pa_nil))) pa_nil)))
      (pss_cons (ps_while PassesOwn.never (pt_cmpR op_gt (pe_callB (r := rLenQ K) c_len (by rfl) T.z_len PySem.boot_len (pa_cons (pv 5) pa_nil)) pe_int (nomark _)) (pss_cons (ps_expr (pe_kBM0 rfl (pe_bm0 PySem.F.plainAttrs_list PySem.F.slot_list_sort PySem.F.type_list_sort mt_sortPO (pv 5))))
      (pss_cons (ps_asg (pe_kBM rfl (pe_bm PySem.F.plainAttrs_list PySem.F.slot_list_pop PySem.F.type_list_pop mt_popAt (pv 5) (pa_cons pe_int pa_nil))) (pg_kT rfl (pg_tup (n := 2) rfl (pgs_cons (pg_name (i := 6) sc_MetricTree_nearest.nd rfl (Or.inl rfl)) (pgs_cons (pg_name (i := 7) sc_MetricTree_nearest.nd rfl (Or.inl rfl)) pgs_nil)))))
      (pss_cons (ps_if (PW.pt (pw_and (pt_cmpR op_eq (pe_callB (r := rLenQ K) c_len (by rfl) T.z_len PySem.boot_len (pa_cons (pv 4) pa_nil)) (pv 2) (nomark _)) (pw_and1 (pt_cmpR op_gt (pv 6) (pe_ix (r := rIxT K) ix_tup (pe_ix (r := rIxL K) ix_list (pv 4) (pe_un un_neg pe_int) (fun _ _ => rfl)) pe_int (fun _ _ => rfl)) (nomark _))))) (pss_one (ps_ret (pv 4))) pss_nil)
      (pss_cons (ps_asg (pe_gm T.cl_MetricTree (ok_MetricTree_load T) (pv 0) (hr.mono (by decide)) pass0S (pa_cons (pv 7) pa_nil)) (pg_kT rfl (pg_tup (n := 2) rfl (pgs_cons (pg_name (i := 8) sc_MetricTree_nearest.nd rfl (Or.inl rfl)) (pgs_cons (pg_name (i := 9) sc_MetricTree_nearest.nd rfl (Or.inl rfl)) pgs_nil)))))
      (pss_cons (ps_for PassesOwn.never rfl (pi_listK rfl (pv 9)) (pg_name (i := 10) sc_MetricTree_nearest.nd rfl (Or.inl rfl)) (pss_cons (ps_set (i := 11) sc_MetricTree_nearest.nd rfl (Or.inl rfl) (pe_g (ok_distance T) (hr.mono (by decide)) pass0S (pa_cons (pe_fldK rfl (pv 0)) (pa_cons (pv 1) (pa_cons (pe_gm T.cl_MetricTree (ok_MetricTree_point_of T) (pv 0) (hr.mono (by decide)) pass0S (pa_cons (pv 8) (pa_cons (pv 10) pa_nil))) pa_nil)))))
      (pss_one (ps_if (pt_cmpR op_eq (pv 8) (pe_glob (v := .int 4) rfl mg_INNER ⟨_, rfl⟩) (nomark _)) (pss_one (ps_expr (pe_kBM rfl (pe_bm PySem.F.plainAttrs_list PySem.F.slot_list_append PySem.F.type_list_append mt_append (pv 5) (pa_cons (pe_tup (pa_cons (pe_callB (c_max2 rfl) (by rfl) T.z_max (by decide +kernel) (pa_cons pe_int (pa_cons (pe_op op_sub (pv 11) (pe_ix (r := rIxT K) ix_tup (pv 10) pe_int (fun _ _ => rfl))) pa_nil))) (pa_cons (pe_ix (r := rIxT K) ix_tup (pv 10) pe_int (fun _ _ => rfl)) pa_nil))) pa_nil))))) (pss_one (ps_if (pt_val (pe_cb (i := 3) hcbk hand rfl hr (by decide) rfl (by first | exact Or.inl rfl | exact Or.inr (Or.inl rfl) | exact Or.inr (Or.inr rfl)) (pa_cons (pe_ix (r := rIxT K) ix_tup (pv 10) pe_int (fun _ _ => rfl)) (pa_cons (pe_ix (r := rIxT K) ix_tup (pv 10) pe_int (fun _ _ => rfl)) pa_nil)))) (pss_one (ps_expr (pe_kBM rfl (pe_bm PySem.F.plainAttrs_list PySem.F.slot_list_append PySem.F.type_list_append mt_append (pv 4) (pa_cons (pe_tup (pa_cons (pv 11) (pa_cons (pe_ix (r := rIxT K) ix_tup (pv 10) pe_int (fun _ _ => rfl)) (pa_cons (pe_ix (r := rIxT K) ix_tup (pv 10) pe_int (fun _ _ => rfl)) (pa_cons (pe_ix (r := rIxT K) ix_tup (pv 10) pe_int (fun _ _ => rfl)) pa_nil))))) pa_nil))))) pss_nil))))))
      (pss_one (ps_set (i := 4) sc_MetricTree_nearest.nd rfl (Or.inl rfl) (pe_slice (r := rSlL K) sl_list (pe_callB (r := rSortN K) cr_sortedN (by rfl) T.z_sorted (by decide +kernel) (pa_cons (pv 4) pa_nil)) po_none (po_some (pv 2)))))))))))
      (pss_one (ps_ret (pv 4)))))), ?_⟩
    obtain ⟨W0, hf0, hc0⟩ := AC.jw [] H AC.j0
    obtain ⟨dx, ho⟩ := W0.ka.o
    walk_at "cx"
    walk_at "rd"
    refine x_newL fun fl0 H1 hfl0 k1 e1 => ?_
    have ho1 := k1.get ho id
    walk_at "rd"
    refine x_newT fun t0 H2 ht0 k2 e2 => ?_
    walk_at "rd"
    refine x_newL fun wl0 H3 hwl0 k3 e3 => ?_
    have k02 : Kp F0 H H2 := k1.trans k2 fun _ z => z.elim
    have k03 : Kp F0 H H3 := k02.trans k3 fun _ z => z.elim
    have fwl0 : H wl0 = none := k02.free hwl0 id
    have nfw0 : fl0 ≠ wl0 := ne_of_none (k2.get e1 id) hwl0
    have nG : ∀ {x : Addr}, H x = none → ¬ Gc x := fun {x} hx z => by
      obtain ⟨o, e⟩ := AC.jg [] H x AC.j0 z
      rw [hx] at e; cases e
    walk_at "rd"
    refine x_wh (fun mz σ H' => ∃ fl wl fvs wvs Fl W seen u6 u7 u8 u9 u10 u11, mz = wsum W ∧ σ = [some (.ref mt), some (.ref pq), some (.int (cnt : Nat)), some (.ref p.f), some (.ref fl), some (.ref wl), u6, u7, u8, u9, u10, u11] ∧ J seen H' ∧ Kp Gc H H' ∧ H' fl = some (.lst fvs) ∧ Paired (FdV K met pt H') fvs Fl ∧ H' wl = some (.lst wvs) ∧ Paired (WtV H') wvs W ∧ fl ≠ wl ∧ H fl = none ∧ H wl = none ∧ (∀ e ∈ W, WtOk D met (gpg s) pt e) ∧ (seen ++ W.flatMap (·.es)).Perm es ∧ BestN (fkey met pt) cnt (seen.filter acc) Fl ∧ wsum W ≤ ps0.length ∧ W.length ≤ wsum W) ?_ ?_
    · have j3 := AC.jk [] F0 H H3 AC.j0 k03 fun _ z => z.elim
      refine ⟨_, fl0, wl0, [], _, [], [⟨0, r, h0, ps0, es⟩], [], none, none, none, none, none, none, rfl, rfl, j3, k03.mono fun _ z => z.elim, k3.get (k2.get e1 id) id, .nil, e3, .cons ⟨t0, rfl, k3.tup e2⟩ .nil, nfw0, hfl0, fwl0, fun e he => ?_, ?_, .nil _, Nat.le_of_eq (by show ps0.length + 0 = _; omega), ?_⟩
      · rw [List.mem_singleton.mp he]
        exact ⟨K0, fun x _ => dist_nn _ _ _⟩
      · rw [List.nil_append, List.flatMap_cons, List.flatMap_nil, List.append_nil]
      · obtain ⟨_, _, ps', e, _⟩ := K0
        show 1 ≤ ps0.length + 0
        rw [e]; simp
    · rintro mz σ H4 ⟨fl, wl, fvs, wvs, Fl, W, seen, u6, u7, u8, u9, u10, u11, rfl, rfl, j4, k4, hfl, pfl, hwl, pwl, nfw, ffl, fwl, wok, pes, bst, lws, lww⟩
      have lwv := pwl.length
      have lfv := pfl.length
      walk_at "rd"
      rw [lwv]
      cases W with
      | nil =>
        rw [decide_eq_false (by show ¬ ((0 : Nat) : Int) > 0; decide)]
        rw [List.flatMap_nil, List.append_nil] at pes
        walk_at "rd"
        exact k H4 fl fvs Fl seen j4 ⟨Nat.le_of_eq pes.length_eq, fun it hit => pes.mem_iff.mp hit⟩ k4 ffl hfl pfl (bst.perm (pes.filter acc))
      | cons eA W1 =>
        rw [decide_eq_true (show (((eA :: W1).length : Nat) : Int) > 0 by rw [List.length_cons]; omega)]
        walk_at "rd"
        refine ⟨_, fun σ' H' z => z, ?_⟩
        walk_at "rd"
        refine ⟨wl, wvs, pairAt H4, rfl, rfl, hwl, pr_refs pwl, fun zs srt stb => ?_⟩
        have k5 : Kp (F1 wl) H4 (upd H4 wl (.lst zs)) := Kp.put hwl id
        have e5 : (upd H4 wl (.lst zs) : Hp) wl = some (.lst zs) := upd_same
        generalize upd H4 wl (.lst zs) = H5 at k5 e5 ⊢
        obtain ⟨W2, pW, pzs⟩ := pr_lift stb.perm pwl
        have wsE : wsum W2 = wsum (eA :: W1) := wsum_perm pW
        have wok2 : ∀ e ∈ W2, WtOk D met (gpg s) pt e := fun e he => wok e (pW.mem_iff.mp he)
        have pes2 : (seen ++ W2.flatMap (·.es)).Perm es := ((wes_perm pW).append_left seen).trans pes
        have lW2 := pW.length_eq
        rw [← lW2] at lww
        rw [← wsE] at lws lww ⊢
        cases pzs with
        | nil => simp at lW2
        | cons r0 pz =>
          rename_i z0 e0 zs' W'
          obtain ⟨tz, rfl, hz0⟩ := id r0
          have lz' := pz.length
          have mn : ∀ e ∈ W', e0.b ≤ e.b := fun e he => by
            unfold SrtO.Srtd at srt
            rw [List.pairwise_cons] at srt
            have back : ∀ {ys : List V} {zs : List Wt}, Paired (WtV H4) ys zs → ∀ z ∈ zs, ∃ v ∈ ys, WtV H4 v z := fun h => by
              induction h with
              | nil => intro z hz; cases hz
              | cons r _ ih =>
                intro z hz
                rcases List.mem_cons.mp hz with rfl | hz
                · exact ⟨_, by simp, r⟩
                · obtain ⟨v, hv, rv⟩ := ih z hz
                  exact ⟨v, by simp [hv], rv⟩
            obtain ⟨v, hv, rv⟩ := back pz e he
            have := srt.1 v hv
            unfold ltP at this
            rw [pairAt_eq rv, pairAt_eq r0] at this
            have := SrtO.lexB_no.mp this
            simp only at this
            omega
          walk_at "rd"
          refine ⟨wl, .ref tz :: zs', 0, 0, .ref tz, rfl, rfl, e5, by decide, by decide, seqIx (i := 0) (by simp), rfl, ?_⟩
          rw [List.eraseIdx_cons_zero]
          have k6 : Kp (F1 wl) H5 (upd H5 wl (.lst zs')) := Kp.put e5 id
          have e6 : (upd H5 wl (.lst zs') : Hp) wl = some (.lst zs') := upd_same
          generalize upd H5 wl (.lst zs') = H6 at k6 e6 ⊢
          have k46 : Kp (F1 wl) H4 H6 := k5.trans k6 fun _ z => .inl z
          have j6 := AC.jk seen (F1 wl) H4 H6 j4 k46 fun b z => by rw [z]; exact fwl
          have k06 : Kp Gc H H6 := fun b o e n => k46.get (k4 b o e n) (ne_of_none e fwl)
          have hfl6 := k46.get hfl nfw
          have pfl6 := pfl.mono fun _ _ z => z.kp k46
          have pz6 := pz.mono fun _ _ z => z.kp k46
          have hz6 := k46.tup hz0
          have wo := wok2 e0 (by simp)
          have wo' : ∀ e ∈ W', WtOk D met (gpg s) pt e := fun e he => wok2 e (by simp [he])
          obtain ⟨W6, hf6, hc6⟩ := AC.jw seen H6 j6
          have hpq6 := k06.sqT hpq
          walk_at "rd"
          rw [lfv]
          have lw' := wsum_ge wo'
          have wE : wsum (e0 :: W') = e0.ps.length + wsum W' := rfl
          rw [List.flatMap_cons] at pes2
          refine if_both ?_ fun hb rest => ?_
          · have ka6 := W6.ka
            obtain ⟨dx6, ho6⟩ := W6.ka.o
            have pg6 := W6.pg
            obtain ⟨b0, n0, hh, pse, ese⟩ := e0
            have Kn := wo.k
            have wob := wo.b
            simp only at Kn wob mn
            dsimp only at pes2
            have wE : wsum (⟨b0, n0, hh, pse, ese⟩ :: W') = pse.length + wsum W' := rfl
            obtain ⟨kd, its, ps', eps, dec, cc⟩ := id Kn
            have iok := dec.ok
            have lz := dec.lz
            have lps' : pse.length = ps'.length + 1 := by rw [eps]; rfl
            walk_at "rd"
            refine ⟨mt, pg, q, r, D, met, n0, kd, its, O, Od, s, rfl, ka6, pg6, dec, hD, fun H7 t7 l ws k7 e7 fl7 el7 hv7 => ?_⟩
            have lv7 := hv7.length
            have ngl : ¬ Gc l := fun z => by
              obtain ⟨o', e'⟩ := AC.jg seen H6 l j6 z
              rw [fl7] at e'; cases e'
            have nlf : l ≠ fl := ne_of_none hfl6 fl7 |>.symm
            have nlw : l ≠ wl := ne_of_none e6 fl7 |>.symm
            have ngf : ¬ Gc fl := nG ffl
            have ngw : ¬ Gc wl := nG fwl
            have j7 := AC.jk seen F0 H6 H7 j6 k7 fun _ z => z.elim
            have hfl7 := k7.get hfl6 id
            have e67 := k7.get e6 id
            have pfl7 := pfl6.mono fun _ _ z => z.kp k7
            have pz7 := pz6.mono fun _ _ z => z.kp k7
            have k07 : Kp Gc H H7 := k06.trans k7 fun _ z => z.elim
            have lFl : Fl.length ≤ cnt := bst.choose_spec.2.2.2.1
            cases hh with
            | zero =>
              obtain ⟨rfl, rfl, e3⟩ := cc
              obtain rfl : its = ese := e3.symm
              walk_at "rd"
              refine wfor (Wk.list (xs := ws)) (fun i σ H' => ∃ fvs u10 u11, σ = [some (.ref mt), some (.ref pq), some (.int (cnt : Nat)), some (.ref p.f), some (.ref fl), some (.ref wl), some (.int b0), some (.int n0), some (.int 3), some (.ref l), u10, u11] ∧ J (seen ++ its.take i) H' ∧ Kp (fun x => Gc x ∨ x = fl) H7 H' ∧ H' fl = some (.lst fvs) ∧ Paired (FdV K met pt H') fvs (Fl ++ (its.take i).filter acc))
                ⟨fvs, _, _, rfl, by rw [List.take_zero, List.append_nil]; exact j7, Kp.refl _, hfl7, by rw [List.take_zero, List.filter_nil, List.append_nil]; exact pfl7⟩ (fun i σ H' ⟨_, _, _, _, _, kk, _⟩ => SqL.of (kk.get el7 fun z => z.elim ngl nlf)) ?_ ?_
              · rintro i x σ H8 ex ⟨fvs8, u10, u11, rfl, j8, k8, hfl8, pfl8⟩
                obtain ⟨it, ei, hit⟩ := pgt hv7 ex
                have itM := List.mem_of_getElem? ei
                have hi := (List.getElem?_eq_some_iff.mp ei).1
                obtain ⟨W8, hf8, hc8⟩ := AC.jw _ H8 j8
                obtain ⟨dx8, ho8⟩ := W8.ka.o
                obtain ⟨t, q9, rfl, ht, hq⟩ := hit.kp k8
                have ht8 : SqT K H8 t [.int it.x, .int it.y, .ref q9] := ht
                have hpq8 := k8.sqT (k7.sqT hpq6)
                have li := (iok it itM).l
                have tk1 : its.take (i + 1) = its.take i ++ [it] := by rw [List.take_succ, ei]; rfl
                have lfv8 := pfl8.length
                have lfl8 : ((its.take i).filter acc).length ≤ 9 := Nat.le_trans (List.length_filter_le _ _) (by rw [List.length_take]; omega)
                rw [List.length_append] at lfv8
                have pE := pes2.length_eq
                rw [List.length_append, List.length_append] at pE
                walk_at "rd"
                refine ⟨mt, t, q9, 3, it, rfl, ht, .inl rfl, ?_⟩
                walk_at "rd"
                refine ⟨met, pq, q9, pt, it.p, rfl, hpq8, hq, by omega, by omega, by omega, fun H9 k9 => ?_⟩
                have j9 := AC.jk _ F0 H8 H9 j8 k9 fun _ z => z.elim
                obtain ⟨W9, hf9, hc9⟩ := AC.jw _ H9 j9
                have ht9 := k9.sqT ht8
                walk_at "rd"
                rw [decide_eq_false (by decide)]
                walk_at "rd"
                refine x_cbk rfl hf9 ?_
                walk_at "rd"
                refine ⟨hf9, hc9, AC.cb _ H9 it _ j9 (pes2.mem_iff.mp (by simp [itM])) (by rw [List.length_append, List.length_take]; omega) fun H10 j10 k10 => ?_⟩
                rw [List.append_assoc, ← tk1] at j10
                have k810 : Kp (fun x => Gc x ∨ x = fl) H8 H10 := (k9.mono fun _ z => z.elim).trans k10 fun _ z => .inl (.inl z)
                cases ha : acc it with
                | false =>
                  walk_at "rd"
                  refine ⟨fvs8, _, _, rfl, j10, k8.trans k810 fun _ z => .inl z, k10.get (k9.get hfl8 id) ngf, ?_⟩
                  rw [tk1, List.filter_append, List.filter_cons_of_neg (by rw [ha]; exact Bool.false_ne_true), List.filter_nil, List.append_nil]
                  exact pfl8.mono fun _ _ z => z.kp k810
                | true =>
                  have ht10 := k10.sqT ht9
                  have hfl10 := k10.get (k9.get hfl8 id) ngf
                  walk_at "rd"
                  refine x_newT fun t11 H11 ht11 k11 e11 => ?_
                  have hfl11 := k11.get hfl10 id
                  walk_at "rd"
                  refine x_app hfl11 (by omega) fun H12 e12 k12 => ?_
                  have k812 : Kp (fun x => Gc x ∨ x = fl) H8 H12 := (k810.trans k11 fun _ z => z.elim).trans k12 fun _ z => .inl (.inr z)
                  have n11 : t11 ≠ fl := (ne_of_none (k10.get (k9.get hfl8 id) ngf) ht11).symm
                  refine ⟨_, _, _, rfl, AC.jk _ (F1 fl) H10 H12 j10 ((k11.mono fun _ z => z.elim).trans k12 fun _ z => .inl z) (fun b z => by rw [z]; exact ffl), k8.trans k812 fun _ z => .inl z, e12, ?_⟩
                  rw [tk1, List.filter_append, List.filter_cons_of_pos ha, List.filter_nil, ← List.append_assoc]
                  exact pr_app (pfl8.mono fun _ _ z => z.kp k812) (.cons ⟨t11, q9, rfl, k12.get e11 n11, (k12.sqT (k11.sqT (k810.sqT hq)))⟩ .nil)
              · rintro σ H8 ⟨fvs8, u10, u11, rfl, j8, k8, hfl8, pfl8⟩
                rw [lv7, List.take_length] at j8 pfl8
                have nd8 := fnd_nd bst pes2 knd
                have lwl8 := k8.get e67 fun z => z.elim ngw fun z => nfw z.symm
                have pwl8 := pz7.mono fun _ _ z => z.kp k8
                walk_at "rd"
                refine x_srtN (R := FdV K met pt) (fkey met pt) (n := 2) (SqL.of hfl8) pfl8 (fun v x r => r.ky) (fkey_nd nd8) (fun H' v x k r => r.kp k) fun ys sl H9 zs pz sz hsl k9 e9 pzs => ?_
                walk_at "rd"
                refine x_slL (SqL.of e9) fun fl' H10 hfl' k10 e10 => ?_
                rw [cut_toA] at e10
                have k810 : Kp F0 H8 H10 := k9.trans k10 fun _ z => z.elim
                have k010 : Kp Gc H H10 := fun b o e n => k810.get (k8 b o (k07 b o e n) fun z => z.elim n fun z => absurd z (ne_of_none e ffl)) id
                have f8 : H8 fl' = none := k9.free hfl' id
                have fl'H : H fl' = none := by
                  have ng : ¬ Gc fl' := fun z => by
                    obtain ⟨o, e⟩ := AC.jg _ H8 _ j8 z
                    rw [f8] at e; cases e
                  exact k07.free (k8.free f8 fun z => z.elim ng fun z => by rw [z, hfl8] at f8; cases f8) ng
                walk_at "rd"
                refine ⟨wsum W', by omega, fl', wl, ys.take cnt, zs', zs.take cnt, W', seen ++ its, _, _, _, _, _, _, rfl, rfl, AC.jk _ F0 H8 H10 j8 k810 (fun _ z => z.elim), k010, e10, (pr_tk cnt pzs).mono (fun _ _ z => z.kp k10), k810.get lwl8 id, pwl8.mono (fun _ _ z => z.kp k810), ?_, fl'H, fwl, wo', ?_, ?_, by omega, by omega⟩
                · exact ne_of_none (k9.get lwl8 id) hfl' |>.symm
                · rw [List.append_assoc]; exact pes2
                · rw [List.filter_append]
                  exact bst.step pz sz
            | succ hh =>
              obtain ⟨rfl, ne, sg⟩ := cc
              obtain ⟨WW, w1, w2, w3, w4⟩ := sg.wts lpt iok
              have w1l := w1.length
              walk_at "rd"
              refine wfor (Wk.list (xs := ws)) (fun i σ H' => ∃ wvs u10 u11, σ = [some (.ref mt), some (.ref pq), some (.int (cnt : Nat)), some (.ref p.f), some (.ref fl), some (.ref wl), some (.int b0), some (.int n0), some (.int 4), some (.ref l), u10, u11] ∧ Kp (F1 wl) H7 H' ∧ H' wl = some (.lst wvs) ∧ Paired (WtV H') wvs (W' ++ WW.take i))
                ⟨zs', _, _, rfl, Kp.refl _, e67, by rw [List.take_zero, List.append_nil]; exact pz7⟩ (fun i σ H' ⟨_, _, _, _, kk, _⟩ => SqL.of (kk.get el7 nlw)) ?_ ?_
              · rintro i x σ H8 ex ⟨wvs8, u10, u11, rfl, k8, hwl8, pwl8⟩
                obtain ⟨ch, ech, hit⟩ := pgt hv7 ex
                obtain ⟨ew, eew, eb, en⟩ := pgt w1 ech
                have j8 := AC.jk _ (F1 wl) H7 H8 j7 k8 fun b z => by rw [z]; exact fwl
                obtain ⟨W8, hf8, hc8⟩ := AC.jw _ H8 j8
                obtain ⟨dx8, ho8⟩ := W8.ka.o
                obtain ⟨t, q9, rfl, ht, hq⟩ := hit.kp k8
                have ht8 : SqT K H8 t [.ref q9, .int ch.x, .int ch.y] := ht
                have hpq8 := k8.sqT (k7.sqT hpq6)
                have li := (iok ch (List.mem_of_getElem? ech)).l
                have tk1 : WW.take (i + 1) = WW.take i ++ [ew] := by rw [List.take_succ, eew]; rfl
                have lwv8 := pwl8.length
                rw [List.length_append, List.length_take] at lwv8
                walk_at "rd"
                refine ⟨mt, t, q9, 4, ch, rfl, ht, .inr rfl, ?_⟩
                walk_at "rd"
                refine ⟨met, pq, q9, pt, ch.p, rfl, hpq8, hq, by omega, by omega, by omega, fun H9 k9 => ?_⟩
                have ht9 := k9.sqT ht8
                have hwl9 := k9.get hwl8 id
                walk_at "rd"
                rw [decide_eq_true rfl]
                walk_at "rd"
                try refine x_max2 ?_
                walk_at "rd"
                refine x_newT fun t11 H11 ht11 k11 e11 => ?_
                have hwl11 := k11.get (k9.get hwl8 id) id
                walk_at "rd"
                refine x_app hwl11 (by omega) fun H12 e12 k12 => ?_
                have n11 : t11 ≠ wl := (ne_of_none (k9.get hwl8 id) ht11).symm
                have k812 : Kp (F1 wl) H8 H12 := ((k9.trans k11 fun _ z => z.elim).mono fun _ z => z.elim).trans k12 fun _ z => .inl z
                refine ⟨_, _, _, rfl, k8.trans k812 fun _ z => .inl z, e12, ?_⟩
                rw [tk1, ← List.append_assoc]
                refine pr_app (pwl8.mono fun _ _ z => z.kp k812) (.cons ⟨t11, rfl, ?_⟩ .nil)
                rw [eb, en]
                exact k12.get e11 n11
              · rintro σ H8 ⟨wvs8, u10, u11, rfl, k8, hwl8, pwl8⟩
                rw [lv7, w1l, List.take_length] at pwl8
                have j8 := AC.jk _ (F1 wl) H7 H8 j7 k8 fun b z => by rw [z]; exact fwl
                have nd8 := fnd_nd (e1 := []) bst (by rw [List.nil_append]; exact pes2) knd
                rw [List.filter_nil, List.append_nil] at nd8
                have hfl8 := k8.get hfl7 nfw
                have pfl8 := pfl7.mono fun _ _ z => z.kp k8
                walk_at "rd"
                refine x_srtN (R := FdV K met pt) (fkey met pt) (n := 2) (SqL.of hfl8) pfl8 (fun v x r => r.ky) (fkey_nd nd8) (fun H' v x k r => r.kp k) fun ys sl H9 zs pz sz hsl k9 e9 pzs => ?_
                walk_at "rd"
                refine x_slL (SqL.of e9) fun fl' H10 hfl' k10 e10 => ?_
                rw [cut_toA] at e10
                have k810 : Kp F0 H8 H10 := k9.trans k10 fun _ z => z.elim
                have k010 : Kp Gc H H10 := fun b o e n => k810.get (k8.get (k07 b o e n) (ne_of_none e fwl)) id
                have f8 : H8 fl' = none := k9.free hfl' id
                have fl'H : H fl' = none := by
                  have ng : ¬ Gc fl' := fun z => by
                    obtain ⟨o, e⟩ := AC.jg _ H8 _ j8 z
                    rw [f8] at e; cases e
                  exact k07.free (k8.free f8 fun z => by rw [z, hwl8] at f8; cases f8) ng
                have ww : wsum (W' ++ WW) = wsum W' + ps'.length := by rw [wsum_app, w4]
                walk_at "rd"
                refine ⟨wsum (W' ++ WW), by omega, fl', wl, ys.take cnt, wvs8, zs.take cnt, W' ++ WW, seen, _, _, _, _, _, _, rfl, rfl, AC.jk _ F0 H8 H10 j8 k810 (fun _ z => z.elim), k010, e10, (pr_tk cnt pzs).mono (fun _ _ z => z.kp k10), k810.get hwl8 id, pwl8.mono (fun _ _ z => z.kp k810), ?_, fl'H, fwl, ?_, ?_, ?_, by omega, ?_⟩
                · exact ne_of_none (k9.get hwl8 id) hfl' |>.symm
                · intro e he
                  rcases List.mem_append.mp he with he | he
                  · exact wo' e he
                  · exact w2 e he
                · rw [List.flatMap_append, w3]
                  exact ((List.perm_append_comm).append_left seen).trans pes2
                · have := bst.step (N := []) (by rw [List.append_nil]; exact pz) sz
                  rw [List.append_nil] at this
                  exact this
                · rw [List.length_append]
                  have := wsum_ge w2
                  omega
          · have hb' : Fl.length = cnt := by have := of_decide_eq_true hb; omega
            obtain ⟨Fl', y, rfl⟩ : ∃ F' y, Fl = F' ++ [y] := ⟨Fl.dropLast, Fl.getLast (fun z => by rw [z] at hb'; simp at hb'; omega), (List.dropLast_concat_getLast _).symm⟩
            obtain ⟨fvs', v, rfl, p1, ty, qy, rfl, hty, hqy⟩ := pr_snoc pfl6
            walk_at "rd"
            refine x_ixL (v := .ref ty) (SqL.of hfl6) at_lastV ?_
            walk_at "rd"
            refine ite_dec (fun e => ?_) fun _ => ?_
            · walk_at "rd"
              refine k H6 fl _ _ seen j6 ⟨by rw [← pes.length_eq, List.length_append]; omega, fun it hit => pes.mem_iff.mp (by simp [hit])⟩ k06 ffl hfl6 pfl6 ?_
              have far : ∀ x ∈ (e0.es ++ W'.flatMap (·.es)).filter acc, e0.b ≤ dist met pt x.p := fun x hx => by
                rcases List.mem_append.mp (List.mem_filter.mp hx).1 with hx | hx
                · exact wo.b x hx
                · obtain ⟨e', he', hx'⟩ := List.mem_flatMap.mp hx
                  have := mn e' he'
                  have := (wo' e' he').b x hx'
                  omega
              have b2 := bst.prune (R := (e0.es ++ W'.flatMap (·.es)).filter acc) hb' fun t ht r hr => by
                have d1 := far r hr
                have d2 : dist met pt t.p ≤ dist met pt y.p := by
                  rcases List.mem_append.mp ht with ht | ht
                  · obtain ⟨_, _, srt2, _⟩ := bst
                    have := (List.pairwise_append.mp srt2).2.2 t ht y (by simp)
                    exact lexL_fst this
                  · rw [List.mem_singleton.mp ht]; exact Int.le_refl _
                exact lexL_lt (by omega)
              rw [← List.filter_append] at b2
              exact b2.perm (pes2.filter acc)
            · rw [if_neg Bool.false_ne_true] at rest
              exact rest
end
/-! ### the pages of a metric tree in order, and all its items -/
inductive PWkM (D : Nat) (v : Int → List Int) : List Int → List Int → Prop
  | nil : PWkM D v [] []
  | leaf {n : Int} {st out : List Int} {its : List Mt} : DecM D (v n) 3 its → PWkM D v st out → PWkM D v (n :: st) (n :: out)
  | node {n : Int} {st out : List Int} {its : List Mt} : DecM D (v n) 4 its → PWkM D v (its.map (·.y) ++ st) out → PWkM D v (n :: st) (n :: out)
theorem PWkM.len {D : Nat} {v : Int → List Int} {st out : List Int} (h : PWkM D v st out) : st.length ≤ out.length := by
  induction h with
  | nil => exact Nat.le_refl _
  | leaf _ _ ih => rw [List.length_cons, List.length_cons]; omega
  | node _ _ ih => rw [List.length_append] at ih; rw [List.length_cons, List.length_cons]; omega
theorem MSeg.pwk {D : Nat} {v : Int → List Int} {R : MR} {m : Str} {B : Int} (hR : ∀ n ps es st out, R n ps es → PWkM D v st out → PWkM D v (n :: st) (ps ++ out)) : ∀ {cs : List Mt} {ps : List Int} {es : List Mt} {st out : List Int}, MSeg R m B cs ps es → PWkM D v st out → PWkM D v (cs.map (·.y) ++ st) (ps ++ out)
  | [], _, _, _, _, h, g => by obtain ⟨rfl, _⟩ := h; exact g
  | c :: cs, _, _, _, _, h, g => by
    obtain ⟨p1, p2, e1, e2, rfl, rfl, _, q, s⟩ := h
    rw [List.append_assoc]
    exact hR _ _ _ _ _ q (MSeg.pwk hR s g)
theorem MT.pwk {D : Nat} {m : Str} {v : Int → List Int} : ∀ (h : Nat) {n : Int} {ps : List Int} {es : List Mt} {st out : List Int}, MT D m v h n ps es → PWkM D v st out → PWkM D v (n :: st) (ps ++ out)
  | 0, _, _, _, _, _, K, g => by
    obtain ⟨kd, its, ps', rfl, d, rfl, rfl, _⟩ := K
    exact .leaf d g
  | h + 1, _, _, _, _, _, K, g => by
    obtain ⟨kd, its, ps', rfl, d, rfl, _, s⟩ := K
    exact .node d (MSeg.pwk (fun _ _ _ _ _ r g => MT.pwk h r g) s g)
inductive LvM (D : Nat) (v : Int → List Int) : List Int → List Mt → Prop
  | nil : LvM D v [] []
  | leaf {n : Int} {ps : List Int} {its es : List Mt} : DecM D (v n) 3 its → LvM D v ps es → LvM D v (n :: ps) (its ++ es)
  | node {n : Int} {ps : List Int} {its es : List Mt} : DecM D (v n) 4 its → LvM D v ps es → LvM D v (n :: ps) es
theorem MSeg.lv {D : Nat} {v : Int → List Int} {R : MR} {m : Str} {B : Int} (hR : ∀ n ps es q e, R n ps es → LvM D v q e → LvM D v (ps ++ q) (es ++ e)) : ∀ {cs : List Mt} {ps : List Int} {es : List Mt} {q : List Int} {e : List Mt}, MSeg R m B cs ps es → LvM D v q e → LvM D v (ps ++ q) (es ++ e)
  | [], _, _, _, _, h, g => by obtain ⟨rfl, rfl⟩ := h; exact g
  | c :: cs, _, _, _, _, h, g => by
    obtain ⟨p1, p2, e1, e2, rfl, rfl, _, q, s⟩ := h
    rw [List.append_assoc, List.append_assoc]
    exact hR _ _ _ _ _ q (MSeg.lv hR s g)
theorem MT.lv {D : Nat} {m : Str} {v : Int → List Int} : ∀ (h : Nat) {n : Int} {ps : List Int} {es : List Mt} {q : List Int} {e : List Mt}, MT D m v h n ps es → LvM D v q e → LvM D v (ps ++ q) (es ++ e)
  | 0, _, _, _, _, _, K, g => by
    obtain ⟨kd, its, ps', rfl, d, rfl, rfl, rfl⟩ := K
    exact .leaf d g
  | h + 1, _, _, _, _, _, K, g => by
    obtain ⟨kd, its, ps', rfl, d, rfl, _, s⟩ := K
    exact .node d (MSeg.lv (fun _ _ _ _ _ r g => MT.lv h r g) s g)
theorem pr_revM {α β : Type} {R : α → β → Prop} : ∀ {l : List α} {m : List β}, Paired R l m → Paired R l.reverse m.reverse
  | _, _, .nil => .nil
  | _, _, .cons r t => by rw [List.reverse_cons, List.reverse_cons]; exact pr_app (pr_revM t) (.cons r .nil)
def mkey (it : Mt) : List Int := [it.x, it.y]
theorem mkey_nd {l : List Mt} (h : (l.map kyM).Nodup) : (l.map mkey).Nodup := by
  unfold List.Nodup at h ⊢
  rw [List.pairwise_map] at h ⊢
  refine h.imp fun {x y} n e => n ?_
  unfold mkey at e
  simp only [List.cons.injEq] at e
  exact Prod.ext e.1 e.2.1
theorem MtV.ky {K : PySem.W.Frag} {H : Hp} {v : V} {it : Mt} (h : MtV K H 3 v it) : KyV K H (1 + 1) v (mkey it) := by
  obtain ⟨t, q, e, ht, _⟩ := h
  exact ⟨rfl, t, [.ref q], e, ht⟩
section
variable {P : Program} {w : World} {K : PySem.W.Frag} {mg : Str → Option Value} {base : Heap} {c : Cl}
def sp_MetricTree_pages (c : Cl) : Sp := fun vs H Q _ => ∃ (kt p q : Addr) (r : Int) (D : Nat) (met : Str) (out : List Int) (O Od : Addr → Prop) (s : PgS), vs = [.ref kt] ∧ MkA c H kt p r D met ∧ PagAt c H p q O Od s ∧ PWkM D (gpg s) [r] out ∧ out.length ≤ 400000 ∧ D ≤ 8 ∧ ∀ b H', H b = none → Kp F0 H H' → H' b = some (.lst (out.map V.int)) → Q (.ref b) H'
theorem ok_MetricTree_pages (T : Txt K mg c) : GM P w K mg base CX0 5 c.MetricTree "pages" (sp_MetricTree_pages c) := by
  obtain ⟨f, fd, F, gf, gi⟩ := T.f_MetricTree_pages
  obtain ⟨_, mg_INNER⟩ := T.m_INNER
  have tc_MetricTree := T.cl_MetricTree; have tn_MetricTree_pager := T.n_MetricTree_pager; have tn_MetricTree_root := T.n_MetricTree_root; have tn_MetricTree_dimensions := T.n_MetricTree_dimensions; have tn_MetricTree_metric := T.n_MetricTree_metric
  refine ⟨f, fd, ["self"], F.ok sc_MetricTree_pages ?_ (fun cdv A outer s0 H vs Q E hr h => ?_), ⟨gf, gi, F.kp⟩, (F.binds (ps := ["self"]) fun _ _ _ _ _ _ us hl => match us, hl with | [_], _ => rfl)⟩
  · rintro vs H Q E ⟨_, _, _, _, _, _, _, _, _, _, rfl, _⟩
    rfl
  · obtain ⟨kt, p, q, r, D, met, out, O, Od, s, rfl, hkt, hP, pw, lo, hD, k⟩ := h
    obtain ⟨dx, ho⟩ := hkt.o
    refine ⟨_, (pss_cons (ps_set (i := 1) sc_MetricTree_pages.nd rfl (Or.inl rfl) (pe_lst pa_nil))
      (pss_cons (ps_set (i := 2) sc_MetricTree_pages.nd rfl (Or.inl rfl) (pe_lst (pa_cons (pe_fldK rfl (pv 0)) pa_nil)))
      (pss_cons (ps_while PassesOwn.never (pt_cmpR op_gt (pe_callB (r := rLenQ K) c_len (by rfl) T.z_len PySem.boot_len (pa_cons (pv 2) pa_nil)) pe_int (nomark _)) (pss_cons (ps_set (i := 3) sc_MetricTree_pages.nd rfl (Or.inl rfl) (pe_kBM0 rfl (pe_bm0 PySem.F.plainAttrs_list PySem.F.slot_list_pop PySem.F.type_list_pop mt_pop (pv 2))))
      (pss_cons (ps_expr (pe_kBM rfl (pe_bm PySem.F.plainAttrs_list PySem.F.slot_list_append PySem.F.type_list_append mt_append (pv 1) (pa_cons (pv 3) pa_nil))))
      (pss_cons (ps_asg (pe_gm T.cl_MetricTree (ok_MetricTree_load T) (pv 0) (hr.mono (by decide)) pass0S (pa_cons (pv 3) pa_nil)) (pg_kT rfl (pg_tup (n := 2) rfl (pgs_cons (pg_name (i := 4) sc_MetricTree_pages.nd rfl (Or.inl rfl)) (pgs_cons (pg_name (i := 5) sc_MetricTree_pages.nd rfl (Or.inl rfl)) pgs_nil)))))
      (pss_one (ps_if (pt_cmpR op_eq (pv 4) (pe_glob (v := .int 4) rfl mg_INNER ⟨_, rfl⟩) (nomark _)) (pss_one (ps_expr (pe_kBM rfl (pe_bm PySem.F.plainAttrs_list PySem.F.slot_list_extend PySem.F.type_list_extend mt_extend (pv 2) (pa_cons (pe_lc (own := [("child", 6)]) (g := (gName 6)) (tt := tYes) rfl sc_MetricTree_pages.nd (pi_revK rfl (pi_reversed (by rfl) T.z_reversed (pa_cons (pv 5) pa_nil))) (blkOk_by (N := ["self", "found", "waiting", "number", "kind", "items", "child"]) (sc := defScope s_MetricTree_pages) (by decide +kernel)) (fun _ _ _ _ _ => (pg_name (i := 6) sc_MetricTree_pages.nd rfl (Or.inl rfl))) (fun _ _ _ _ _ => pts_nil) (fun _ _ _ _ _ => (pe_ix (r := rIxT K) ix_tup (pv 6) pe_int (fun _ _ => rfl)))) pa_nil))))) pss_nil))))))
      (pss_one (ps_ret (pv 1)))))), ?_⟩
    walk_at "cx"
    walk_at "rd"
    refine x_newL fun fl H1 hfl k1 e1 => ?_
    have ho1 := k1.get ho id
    walk_at "rd"
    refine x_newL fun wl H2 hwl k2 e2 => ?_
    walk_at "rd"
    have fwl : H wl = none := k1.free hwl id
    have nfw : fl ≠ wl := ne_of_none e1 hwl
    refine x_wh (fun m σ H' => ∃ done rest st u3 u4 u5, m = rest.length ∧ σ = [some (.ref kt), some (.ref fl), some (.ref wl), u3, u4, u5, none] ∧ H' fl = some (.lst (done.map V.int)) ∧ H' wl = some (.lst (st.reverse.map V.int)) ∧ PWkM D (gpg s) st rest ∧ out = done ++ rest ∧ Kp F0 H H') ?_ ?_
    · exact ⟨_, [], out, [r], none, none, none, rfl, rfl, k2.get e1 id, e2, pw, rfl, k1.trans k2 fun _ z => z.elim⟩
    · rintro m σ H3 ⟨done, rest, st, u3, u4, u5, rfl, rfl, hf3, hw3, pw3, eo, k3⟩
      have ho3 := k3.get ho id
      have sl := pw3.len
      have ll : out.length = done.length + rest.length := by rw [eo, List.length_append]
      walk_at "rd"
      rw [List.length_map, List.length_reverse]
      cases pw3 with
      | nil =>
        rw [decide_eq_false (by decide)]
        walk_at "rd"
        rw [List.append_nil] at eo
        exact k fl H3 hfl k3 (by rw [eo]; exact hf3)
      | leaf d pw4 =>
        rename_i n st rest its
        rw [decide_eq_true (by rw [List.length_cons]; omega)]
        walk_at "rd"
        refine ⟨_, fun σ' H' z => ⟨rest.length, Nat.lt_succ_self _, z⟩, ?_⟩
        rw [List.reverse_cons, List.map_append, List.map_cons, List.map_nil] at hw3
        walk_at "rd"
        refine ⟨wl, _, .int n, rfl, rfl, hw3, by simp, ?_⟩
        rw [List.dropLast_concat]
        have k4 : Kp (F1 wl) H3 (upd H3 wl (.lst (st.reverse.map V.int))) := Kp.put hw3 id
        have e4 : (upd H3 wl (.lst (st.reverse.map V.int)) : Hp) wl = some (.lst (st.reverse.map V.int)) := upd_same
        generalize upd H3 wl (.lst (st.reverse.map V.int)) = H4 at k4 e4 ⊢
        have k04 : Kp F0 H H4 := fun x o hx _ => k4.get (k3.get hx id) (ne_of_none hx fwl)
        have hf4 := k4.get hf3 nfw
        walk_at "rd"
        refine x_app hf4 (by rw [List.length_map]; omega) fun H5 e5 k5 => ?_
        have k05 : Kp F0 H H5 := fun x o hx _ => k5.get (k04.get hx id) (ne_of_none hx hfl)
        have ho5 := k05.get ho id
        walk_at "rd"
        refine ⟨kt, p, q, r, D, met, n, 3, its, O, Od, s, rfl, hkt.kp k05 id, hP.same k05, d, hD, fun H6 t6 l6 ws6 k6 e6 f6 el6 hv6 => ?_⟩
        walk_at "rd"
        rw [decide_eq_false (by decide)]
        walk_at "rd"
        exact ⟨done ++ [n], rest, st, _, _, _, rfl, rfl, by rw [List.map_append]; exact k6.get e5 id, k6.get (k5.get e4 nfw.symm) id, pw4, by rw [eo, List.append_assoc]; rfl, k05.trans k6 fun _ z => z.elim⟩
      | node d pw4 =>
        rename_i n st rest its
        rw [decide_eq_true (by rw [List.length_cons]; omega)]
        walk_at "rd"
        refine ⟨_, fun σ' H' z => ⟨rest.length, Nat.lt_succ_self _, z⟩, ?_⟩
        rw [List.reverse_cons, List.map_append, List.map_cons, List.map_nil] at hw3
        walk_at "rd"
        refine ⟨wl, _, .int n, rfl, rfl, hw3, by simp, ?_⟩
        rw [List.dropLast_concat]
        have k4 : Kp (F1 wl) H3 (upd H3 wl (.lst (st.reverse.map V.int))) := Kp.put hw3 id
        have e4 : (upd H3 wl (.lst (st.reverse.map V.int)) : Hp) wl = some (.lst (st.reverse.map V.int)) := upd_same
        generalize upd H3 wl (.lst (st.reverse.map V.int)) = H4 at k4 e4 ⊢
        have k04 : Kp F0 H H4 := fun x o hx _ => k4.get (k3.get hx id) (ne_of_none hx fwl)
        have hf4 := k4.get hf3 nfw
        walk_at "rd"
        refine x_app hf4 (by rw [List.length_map]; omega) fun H5 e5 k5 => ?_
        have k05 : Kp F0 H H5 := fun x o hx _ => k5.get (k04.get hx id) (ne_of_none hx hfl)
        have ho5 := k05.get ho id
        walk_at "rd"
        refine ⟨kt, p, q, r, D, met, n, 4, its, O, Od, s, rfl, hkt.kp k05 id, hP.same k05, d, hD, fun H6 t6 l6 ws6 k6 e6 f6 el6 hv6 => ?_⟩
        have e46 := k6.get (k5.get e4 nfw.symm) id
        have lv := hv6.length
        have lz := d.lz
        have sl4 := pw4.len
        rw [List.length_append, List.length_map] at sl4
        rw [List.length_cons] at ll
        walk_at "rd"
        rw [decide_eq_true (by rfl)]
        walk_at "rd"
        refine wlcP (ys := (its.reverse.map (·.y)).map V.int) Wk.rev (by rw [List.length_map, List.length_map, List.length_reverse, List.length_reverse, lv]) (by rw [List.length_reverse]; omega) (fun H' k' => SqL.of (k'.get el6 id)) (fun j x y H' R ex ey kp hR => ?_) (fun L H7 hL k7 hL7 => ?_)
        · obtain ⟨y', ey', hy'⟩ := pgt (pr_revM hv6) ex
          obtain ⟨t, rr, rfl, ht, _⟩ := hy'
          have ht' : SqT K H' t [.ref rr, .int y'.x, .int y'.y] := kp.sqT ht
          walk_at "rd"
          refine ⟨rfl, ?_⟩
          walk_at "rd"
          rw [List.getElem?_map, List.getElem?_map, ey'] at ey
          cases ey
          exact hR H' (Kp.refl _)
        · have e47 := k7.get e46 id
          walk_at "rd"
          refine x_ext e47 hL7 (by simp only [List.length_map, List.length_reverse]; omega) fun H8 e8 k8 => ?_
          have k08 : Kp F0 H H8 := fun x o hx _ => k8.get (k7.get (k6.get (k05.get hx id) id) id) (ne_of_none hx fwl)
          refine ⟨done ++ [n], rest, _, _, _, _, rfl, rfl, by rw [List.map_append]; exact k8.get (k7.get (k6.get e5 id) id) nfw, ?_, pw4, by rw [eo, List.append_assoc]; rfl, k08⟩
          rw [e8, ← List.map_append, List.reverse_append, List.map_reverse]
def sp_MetricTree_all_items (c : Cl) (K : PySem.W.Frag) : Sp := fun vs H Q _ => ∃ (kt p q : Addr) (r : Int) (D h : Nat) (met : Str) (ps : List Int) (es : List Mt) (O Od : Addr → Prop) (s : PgS), vs = [.ref kt] ∧ MkA c H kt p r D met ∧ PagAt c H p q O Od s ∧ MT D met (gpg s) h r ps es ∧ ps.length ≤ 400000 ∧ es.length ≤ 1000000 ∧ (es.map kyM).Nodup ∧ D ≤ 8 ∧
  ∀ b H' zs ws, zs.Perm es → SrK mkey zs → H b = none → Kp F0 H H' → H' b = some (.lst ws) → MtVs K H' 3 ws zs → Q (.ref b) H'
theorem ok_MetricTree_all_items (T : Txt K mg c) : GM P w K mg base CX0 6 c.MetricTree "all_items" (sp_MetricTree_all_items c K) := by
  obtain ⟨f, fd, F, gf, gi⟩ := T.f_MetricTree_all_items
  obtain ⟨_, mg_LEAF⟩ := T.m_LEAF
  have tc_MetricTree := T.cl_MetricTree; have tn_MetricTree_pager := T.n_MetricTree_pager; have tn_MetricTree_root := T.n_MetricTree_root; have tn_MetricTree_dimensions := T.n_MetricTree_dimensions; have tn_MetricTree_metric := T.n_MetricTree_metric
  refine ⟨f, fd, ["self"], F.ok sc_MetricTree_all_items ?_ (fun cdv A outer s0 H vs Q E hr h => ?_), ⟨gf, gi, F.kp⟩, (F.binds (ps := ["self"]) fun _ _ _ _ _ _ us hl => match us, hl with | [_], _ => rfl)⟩
  · rintro vs H Q E ⟨_, _, _, _, _, _, _, _, _, _, _, _, rfl, _⟩
    rfl
  · obtain ⟨kt, p, q, r, D, h, met, ps, es, O, Od, s, rfl, hkt, hP, K0, lps, les, nd, hD, k⟩ := h
    obtain ⟨dx, ho⟩ := hkt.o
    have pw := MT.pwk h K0 .nil
    have lv := MT.lv h K0 .nil
    rw [List.append_nil] at pw lv
    rw [List.append_nil] at lv
    refine ⟨_, (pss_cons (ps_set (i := 1) sc_MetricTree_all_items.nd rfl (Or.inl rfl) (pe_lst pa_nil))
      (pss_cons (ps_for PassesOwn.never rfl (pi_listK rfl (pe_gm0 T.cl_MetricTree (ok_MetricTree_pages T) (pv 0) (hr.mono (by decide)) pass0S)) (pg_name (i := 2) sc_MetricTree_all_items.nd rfl (Or.inl rfl)) (pss_cons (ps_asg (pe_gm T.cl_MetricTree (ok_MetricTree_load T) (pv 0) (hr.mono (by decide)) pass0S (pa_cons (pv 2) pa_nil)) (pg_kT rfl (pg_tup (n := 2) rfl (pgs_cons (pg_name (i := 3) sc_MetricTree_all_items.nd rfl (Or.inl rfl)) (pgs_cons (pg_name (i := 4) sc_MetricTree_all_items.nd rfl (Or.inl rfl)) pgs_nil)))))
      (pss_one (ps_if (pt_cmpR op_eq (pv 3) (pe_glob (v := .int 3) rfl mg_LEAF ⟨_, rfl⟩) (nomark _)) (pss_one (ps_expr (pe_kBM rfl (pe_bm PySem.F.plainAttrs_list PySem.F.slot_list_extend PySem.F.type_list_extend mt_extend (pv 1) (pa_cons (pv 4) pa_nil))))) pss_nil))))
      (pss_one (ps_ret (pe_callB (r := rSortN K) cr_sortedN (by rfl) T.z_sorted (by decide +kernel) (pa_cons (pv 1) pa_nil)))))), ?_⟩
    walk_at "cx"
    walk_at "rd"
    refine x_newL fun fl H1 hfl k1 e1 => ?_
    have ho1 := k1.get ho id
    walk_at "rd"
    refine ⟨kt, p, q, r, D, met, ps, O, Od, s, rfl, hkt.kp k1 id, hP.same k1, pw, lps, hD, fun b H2 hb k2 e2 => ?_⟩
    have e12 := k2.get e1 id
    have nfb : fl ≠ b := ne_of_none e1 hb
    walk_at "rd"
    refine wfor (Wk.list (xs := ps.map V.int)) (fun i σ H' => ∃ ws e1 er u2 u3 u4, σ = [some (.ref kt), some (.ref fl), u2, u3, u4] ∧ LvM D (gpg s) (ps.drop i) er ∧ es = e1 ++ er ∧ H' fl = some (.lst ws) ∧ MtVs K H' 3 ws e1 ∧ Kp F0 H H' ∧ Kp (F1 fl) H2 H')
      ⟨[], [], es, none, none, none, rfl, lv, rfl, e12, .nil, k1.trans k2 fun _ z => z.elim, Kp.refl _⟩ (fun i σ H' ⟨_, _, _, _, _, _, _, _, _, _, _, _, kk⟩ => SqL.of (kk.get e2 nfb.symm)) ?_ ?_
    · rintro i x σ H3 ex ⟨ws, e1, er, u2, u3, u4, rfl, lv3, ee, hf3, hv3, k3, kk3⟩
      rw [List.getElem?_map] at ex
      obtain ⟨n, en, rfl⟩ := Option.map_eq_some_iff.mp ex
      have dr : ps.drop i = n :: ps.drop (i + 1) := by
        obtain ⟨hi, e⟩ := List.getElem?_eq_some_iff.mp en
        rw [List.drop_eq_getElem_cons hi, e]
      rw [dr] at lv3
      have ho3 := k3.get ho id
      have lw3 := hv3.length
      have le3 : es.length = e1.length + er.length := by rw [ee, List.length_append]
      walk_at "rd"
      cases lv3 with
      | leaf d g =>
        rename_i its es'
        refine ⟨kt, p, q, r, D, met, n, 3, its, O, Od, s, rfl, hkt.kp k3 id, hP.same k3, d, hD, fun H6 t6 l6 ws6 k6 e6 f6 el6 hv6 => ?_⟩
        have hf6 := k6.get hf3 id
        have l6w := hv6.length
        have lz := d.lz
        walk_at "rd"
        rw [decide_eq_true (by rfl)]
        walk_at "rd"
        refine x_ext hf6 el6 (by omega) fun H8 e8 k8 => ?_
        have k08 : Kp F0 H H8 := fun x o hx _ => k8.get (k6.get (k3.get hx id) id) (ne_of_none hx hfl)
        have k28 : Kp (F1 fl) H2 H8 := (kk3.trans k6 fun _ z => z.elim).trans k8 fun _ z => .inl z
        have k38 : Kp (F1 fl) H3 H8 := (k6.mono fun _ z => z.elim).trans k8 fun _ z => .inl z
        exact ⟨_, e1 ++ its, es', _, _, _, rfl, g, by rw [ee, List.append_assoc], e8, pr_app (hv3.mono fun _ _ z => z.kp k38) (hv6.mono fun _ _ z => z.kp k8), k08, k28⟩
      | node d g =>
        rename_i its
        refine ⟨kt, p, q, r, D, met, n, 4, its, O, Od, s, rfl, hkt.kp k3 id, hP.same k3, d, hD, fun H6 t6 l6 ws6 k6 e6 f6 el6 hv6 => ?_⟩
        walk_at "rd"
        rw [decide_eq_false (by decide)]
        walk_at "rd"
        exact ⟨ws, e1, er, _, _, _, rfl, g, ee, k6.get hf3 id, hv3.mono fun _ _ z => z.kp k6, k3.trans k6 fun _ z => z.elim, kk3.trans k6 fun _ z => z.elim⟩
    · rintro σ H3 ⟨ws, e1, er, u2, u3, u4, rfl, lv3, ee, hf3, hv3, k3, kk3⟩
      rw [List.length_map, List.drop_length] at lv3
      cases lv3
      rw [List.append_nil] at ee
      subst ee
      walk_at "rd"
      refine x_srtN (R := fun H v x => MtV K H 3 v x) mkey (n := 1) (SqL.of hf3) hv3 (fun v x r => r.ky) (mkey_nd nd) (fun H' v x k r => r.kp k) fun ys sl H9 zs pz sz hsl k9 e9 pzs => ?_
      exact k sl H9 zs ys pz sz (k3.free hsl id) (k3.trans k9 fun _ z => z.elim) e9 pzs
end
section
variable {P : Program} {w : World} {K : PySem.W.Frag} {mg : Str → Option Value} {base : Heap} {c : Cl}
def sp_spanned (K : PySem.W.Frag) : Sp := fun vs H Q _ => ∃ (st sc : Addr), vs = [.ref st, .ref sc] ∧ Dr K H st sc ∧ ∀ d H', 0 ≤ d → d ≤ 32767 → Dr K H' st sc → Kp (F1 st) H H' → Q (.int d) H'
theorem ok__law_spanned (T : Txt K mg c) : GF P w K mg base CX0 2 "_law_spanned" (sp_spanned K) := by
  obtain ⟨f, fd, F, gm⟩ := T.f__law_spanned
  refine ⟨f, fd, ["_law_state", "_law_script"], F.ok sc__law_spanned ?_ (fun cdv A outer s H vs Q E hr h => ?_), gm, F.kp, (F.binds (ps := ["_law_state", "_law_script"]) fun _ _ _ _ _ _ us hl => match us, hl with | [_, _], _ => rfl)⟩
  · rintro vs H Q E ⟨_, _, rfl, _⟩
    rfl
  · obtain ⟨st, sc, rfl, d, k⟩ := h
    obtain ⟨_, _, _, _, _, hst, _⟩ := id d
    refine ⟨_, (pss_one (ps_ret (pe_ix (r := rIxL K) ix_list (pe_lst (pa_cons pe_int (pa_cons pe_int (pa_cons pe_int (pa_cons pe_int pa_nil))))) (pe_g (ok__law_draw T) (hr.mono (by decide)) pass0S (pa_cons (pv 0) (pa_cons (pv 1) (pa_cons pe_int pa_nil)))) (fun _ _ => rfl)))), ?_⟩
    walk_at "cx"
    walk_at "rd"
    refine x_newL fun p H1 hp kp hp1 => ?_
    walk_at "rd"
    refine ⟨st, sc, 4, rfl, by omega, by omega, d.kp kp id, fun d' H2 d0 d1 dr kp2 => ?_⟩
    have hp2 := kp2.get hp1 (Ne.symm (ne_of_none hst hp))
    have kk : Kp (F1 st) H H2 := (kp.mono fun _ z => z.elim).trans kp2 fun _ z => .inl z
    have c4 : d' = 0 ∨ d' = 1 ∨ d' = 2 ∨ d' = 3 := by omega
    rcases c4 with rfl | rfl | rfl | rfl
    · refine x_ixL (SqL.of hp2) rfl (k _ _ (by decide) (by decide) dr kk)
    · refine x_ixL (SqL.of hp2) rfl (k _ _ (by decide) (by decide) dr kk)
    · refine x_ixL (SqL.of hp2) rfl (k _ _ (by decide) (by decide) dr kk)
    · refine x_ixL (SqL.of hp2) rfl (k _ _ (by decide) (by decide) dr kk)
end
section
variable {P : Program} {w : World} {K : PySem.W.Frag} {mg : Str → Option Value} {base : Heap} {c : Cl}
def sp_point (K : PySem.W.Frag) : Sp := fun vs H Q _ => ∃ (st sc : Addr) (n sp : Int), vs = [.ref st, .ref sc, .int n, .int sp] ∧ 0 ≤ n ∧ n ≤ 1000 ∧ 0 ≤ sp ∧ sp ≤ 100000 ∧ Dr K H st sc ∧
  ∀ p H' (ns : List Int), (ns.length : Int) = n → (∀ x ∈ ns, -sp - 1 ≤ x ∧ x ≤ sp) → H' p = some (.tup (ns.map V.int)) → Dr K H' st sc → Kp (F1 st) H H' → Q (.ref p) H'
theorem ok__law_point (T : Txt K mg c) : GF P w K mg base CX0 2 "_law_point" (sp_point K) := by
  obtain ⟨f, fd, F, gm⟩ := T.f__law_point
  refine ⟨f, fd, ["_law_state", "_law_script", "_law_many", "_law_span"], F.ok sc__law_point ?_ (fun cdv A outer s H vs Q E hr h => ?_), gm, F.kp, (F.binds (ps := ["_law_state", "_law_script", "_law_many", "_law_span"]) fun _ _ _ _ _ _ us hl => match us, hl with | [_, _, _, _], _ => rfl)⟩
  · rintro vs H Q E ⟨_, _, _, _, rfl, _⟩
    rfl
  · obtain ⟨st, sc, n, sp, rfl, n0, n1, s0, s1, d, k⟩ := h
    obtain ⟨_, _, _, _, _, hst, _⟩ := id d
    refine ⟨_, (pss_one (ps_ret (pe_callTy (r := rTupQ K) c_tuple (by rfl) T.z_tuple (by decide +kernel) (pa_cons (pe_lc (own := [("_law_k", 4)]) (g := (gName 4)) (tt := tYes) rfl sc__law_point.nd (pi_range1 (by rfl) T.z_range (pa_cons (pv 2) pa_nil)) (blkOk_by (N := ["_law_state", "_law_script", "_law_many", "_law_span", "_law_k"]) (sc := defScope s__law_point) (by decide +kernel)) (fun _ _ _ _ _ => (pg_name (i := 4) sc__law_point.nd rfl (Or.inl rfl))) (fun _ _ _ _ _ => pts_nil) (fun _ _ _ _ _ => (pe_op op_sub (pe_op op_sub (pe_g (ok__law_draw T) (hr.mono (by decide)) pass0S (pa_cons (pv 0) (pa_cons (pv 1) (pa_cons (pe_op op_add (pe_op op_mul pe_int (pv 3)) pe_int) pa_nil)))) (pv 3)) pe_int))) pa_nil)))), ?_⟩
    walk_at "cx"
    walk_at "rd"
    refine wlc Wk.rng (F1 st) (fun H' => Dr K H' st sc) (fun i acc => ∃ ns : List Int, acc = ns.map V.int ∧ ns.length = i ∧ ∀ x ∈ ns, -sp - 1 ≤ x ∧ x ≤ sp) (fun b e => by rw [e, hst]; exact fun z => by cases z) (by rw [rgl_len]; omega) (fun _ _ _ => trivial)
      ⟨[], rfl, rfl, fun _ h => by cases h⟩ d (fun D hD H' o m q => q.off (ne_of_none hst hD) m) (fun i x acc H' R R0 ex pv dr kp hR _ => ?_) (fun D H1 acc hD hacc pv dr kp => ?_)
    · obtain ⟨ns, rfl, hl, hx⟩ := pv
      walk_at "rd"
      refine ⟨rfl, ?_⟩
      walk_at "rd"
      refine ⟨st, sc, _, rfl, by omega, by omega, dr, fun d' H'' d0 d1 dr' kp' => ?_⟩
      walk_at "rd"
      refine hR _ _ kp' dr' ⟨ns ++ [d' - sp - 1], by rw [List.map_append]; rfl, by rw [List.length_append, hl]; rfl, fun x hx' => ?_⟩
      rcases List.mem_append.mp hx' with h | h
      · exact hx x h
      · rw [List.mem_singleton.mp h]; omega
    · obtain ⟨ns, rfl, hl, hx⟩ := pv
      rw [rgl_len] at hl
      walk_at "rd"
      refine x_tupL (SqL.of hacc) fun l H2 hl2 kp2 hp => ?_
      exact k l H2 ns (by omega) hx hp (dr.kp kp2 id) (kp.trans kp2 fun _ z => z.elim)
end
/-! ### the law's world (k09): the tree, the list of items -/
def Gw (O : Addr → Prop) (st ml : Addr) : Addr → Prop := fun b => O b ∨ b = st ∨ b = ml
structure W09 (c : Cl) (K : PySem.W.Frag) (G0 : Addr → Prop) (H0 H : Hp) (st sc kt p q ml : Addr) (D : Nat) (met : Str) (O Od : Addr → Prop) (s : PgS) (ms : List Mt) : Prop where
  dr : Dr K H st sc
  kw : MW c H kt p q 1 D met O Od s
  mv : ∃ mvs, H ml = some (.lst mvs) ∧ Paired (MtV K H 3) mvs ms
  so : ¬ O st
  mo : ¬ O ml
  sm : st ≠ ml
  tp : Stp G0 (Gw O st ml) H0 H
section
variable {c : Cl} {K : PySem.W.Frag} {G0 : Addr → Prop} {H0 H H' : Hp} {st sc kt p q ml : Addr} {D : Nat} {met : Str} {O O' Od Od' : Addr → Prop} {s s' : PgS} {ms : List Mt}
theorem W09.pure (h : W09 c K G0 H0 H st sc kt p q ml D met O Od s ms) (k : Kp F0 H H') : W09 c K G0 H0 H' st sc kt p q ml D met O Od s ms := by
  obtain ⟨mvs, hm, pm⟩ := h.mv
  exact ⟨h.dr.kp k id, h.kw.pure k, ⟨mvs, k.get hm id, pm.mono fun _ _ z => z.kp k⟩, h.so, h.mo, h.sm, h.tp.trans (Stp.pure k)⟩
theorem W09.draw (h : W09 c K G0 H0 H st sc kt p q ml D met O Od s ms) (k : Kp (F1 st) H H') (d : Dr K H' st sc) : W09 c K G0 H0 H' st sc kt p q ml D met O Od s ms := by
  obtain ⟨mvs, hm, pm⟩ := h.mv
  obtain ⟨dx, o⟩ := h.kw.ka.o
  obtain ⟨i, v, ns, _, _, hst, _⟩ := id h.dr
  exact ⟨d, h.kw.off k (fun b z => by rw [z]; exact h.so) (ne_of o hst (by intro z; cases z)), ⟨mvs, k.get hm h.sm.symm, pm.mono fun _ _ z => z.kp k⟩, h.so, h.mo, h.sm, h.tp.trans ⟨k.mono fun _ z => .inl (.inr (.inl z)), fun _ z => .inl z⟩⟩
theorem W09.pager (h : W09 c K G0 H0 H st sc kt p q ml D met O Od s ms) (P : PagAt c H' p q O' Od' s') (t : Stp O O' H H') : W09 c K G0 H0 H' st sc kt p q ml D met O' Od' s' ms := by
  obtain ⟨mvs, hm, pm⟩ := h.mv
  obtain ⟨o, ho⟩ := h.dr.trk
  exact ⟨h.dr.kp t.kp h.so, h.kw.pager P t, ⟨mvs, t.kp.get hm h.mo, pm.mono fun _ _ z => z.kp t.kp⟩, t.kp0 ho h.so, t.kp0 hm h.mo, h.sm, h.tp.trans ⟨t.kp.mono fun _ z => .inl (.inl z), fun b z => z.elim (fun z => (t.gr b z).imp .inl id) fun z => .inl (.inr z)⟩⟩
theorem W09.put {mvs : List V} {ms' : List Mt} (h : W09 c K G0 H0 H st sc kt p q ml D met O Od s ms) (k : Kp (F1 ml) H H') (e : H' ml = some (.lst mvs)) (pm : Paired (MtV K H' 3) mvs ms') : W09 c K G0 H0 H' st sc kt p q ml D met O Od s ms' := by
  obtain ⟨mvs0, hm, _⟩ := h.mv
  obtain ⟨dx, o⟩ := h.kw.ka.o
  exact ⟨h.dr.kp k h.sm, h.kw.off k (fun b z => by rw [z]; exact h.mo) (ne_of o hm (by intro z; cases z)), ⟨mvs, e, pm⟩, h.so, h.mo, h.sm, h.tp.trans ⟨k.mono fun _ z => .inl (.inr (.inr z)), fun _ z => .inl z⟩⟩
theorem W09.base (h : W09 c K G0 H0 H st sc kt p q ml D met O Od s ms) : W09 c K (Gw O st ml) H H st sc kt p q ml D met O Od s ms := ⟨h.dr, h.kw, h.mv, h.so, h.mo, h.sm, .refl _ _⟩
theorem W09.rise {G1 : Addr → Prop} {H1 : Hp} {O1 Od1 : Addr → Prop} {s1 : PgS} {ms1 : List Mt} (g : W09 c K G1 H1 H st sc kt p q ml D met O Od s ms) (h : W09 c K (Gw O st ml) H H' st sc kt p q ml D met O1 Od1 s1 ms1) : W09 c K G1 H1 H' st sc kt p q ml D met O1 Od1 s1 ms1 := ⟨h.dr, h.kw, h.mv, h.so, h.mo, h.sm, g.tp.trans h.tp⟩
end
/-- the tree holds the items of the list: t operations, e insertions so far -/
def X09 (D : Nat) (met : Str) (t e : Nat) (s : PgS) (ms : List Mt) : Prop := ∃ i m f h ps es, KSM D met 1 i s m f [] h ps es ∧ i ≤ 2 + 1100 * t ∧ h ≤ e ∧ ms.Perm es ∧ ms.length ≤ e ∧ (ms.map kyM).Nodup
theorem ky_nd {ms : List Mt} (h : (ms.map kyM).Nodup) : ms.Nodup := by
  unfold List.Nodup at h ⊢
  rw [List.pairwise_map] at h
  exact h.imp fun h z => h (by rw [z])
theorem erase_pm : ∀ {ms : List Mt} {k : Nat} {it : Mt}, ms[k]? = some it → (it :: ms.eraseIdx k).Perm ms
  | [], k, it, h => by cases k <;> cases h
  | x :: ms, 0, it, h => by cases h; exact .refl _
  | x :: ms, k + 1, it, h => by
    rw [List.eraseIdx_cons_succ]
    exact (List.Perm.swap _ _ _).trans ((erase_pm (ms := ms) (k := k) (by rw [List.getElem?_cons_succ] at h; exact h)).cons x)
theorem X09.ins {D t e : Nat} (hD : D ≤ 8) {met : Str} {s : PgS} {ms : List Mt} (X : X09 D met t e s ms) {it : Mt} (hit : MtOk D it) (hne : ∀ x ∈ ms, kyM x ≠ kyM it) (ht : t ≤ 299) (he : e ≤ 168) :
    ∃ path l e0 s1 s', Ds D met it.p 1 s path l e0 s1 ∧ path.length < 170 ∧ Sm D met path l 3 (e0 ++ [it]) s1 s' ∧ X09 D met (t + 1) (e + 1) s' (ms ++ [it]) := by
  obtain ⟨i, m, f, h, ps, es, S, h1, h2, pm, lm, nd⟩ := X
  obtain ⟨path, l, e0, s1, s', m', f', ps', es', h', ds, lp, sm, S', pe, hh, _⟩ := mins_top hD hit S (by omega) (by omega)
  refine ⟨path, l, e0, s1, s', ds, by omega, sm, _, m', f', h', ps', es', S', by omega, by omega, ?_, by rw [List.length_append, List.length_singleton]; omega, ?_⟩
  · exact (List.perm_append_comm).trans ((pm.cons it).trans pe.symm)
  · rw [List.map_append, List.nodup_append]
    refine ⟨nd, List.nodup_cons.mpr ⟨by simp, List.nodup_nil⟩, fun a ha b hb => ?_⟩
    obtain ⟨x, hx, rfl⟩ := List.mem_map.mp ha
    rw [List.map_cons, List.map_nil, List.mem_singleton] at hb
    rw [hb]
    exact hne x hx
theorem X09.del {D t e k : Nat} (hD : D ≤ 8) {met : Str} {s : PgS} {ms : List Mt} (X : X09 D met t e s ms) {it : Mt} (hk : ms[k]? = some it) (ht : t ≤ 299) (he : e ≤ 168) :
    ∃ path l e0 k1 s1 mm kd its s', Fd D met (gpg s) it [([], 1)] path l e0 k1 ∧ DecM D (gpg s l) 3 e0 ∧ DlM D path l 3 (delM it e0) s s1 ∧ DecM D (gpg s1 1) kd its ∧ LwM D 1 mm kd its s1 s' ∧ it.p.length = D ∧ X09 D met (t + 1) e s' (ms.eraseIdx k) := by
  obtain ⟨i, m, f, h, ps, es, S, h1, h2, pm, lm, nd⟩ := X
  have hin : it ∈ es := pm.mem_iff.mp (List.mem_of_getElem? hk)
  obtain ⟨path, l, e0, k1, s1, mm, kd, its, s', m2, f2, ps', es', h', wy, hin0, lp, fd0, dl, dec, lw, S', pe, hh, nz, _⟩ := mdel_top hD S (pm.nodup_iff.mp (ky_nd nd)) hin (by omega) (by omega)
  refine ⟨path, l, e0, k1, s1, mm, kd, its, s', fd0, wy.dec, dl, dec, lw, (S.K.ok it hin).l, _, m2, f2, h', ps', es', S', by omega, by omega, ?_, Nat.le_trans (List.length_eraseIdx_le ms k) lm, nd.sublist ((List.eraseIdx_sublist ms k).map kyM)⟩
  exact ((erase_pm hk).trans (pm.trans pe.symm)).cons_inv
theorem X09.le {D t e t' e' : Nat} {met : Str} {s : PgS} {ms : List Mt} (h : X09 D met t e s ms) (a : t ≤ t') (b : e ≤ e') : X09 D met t' e' s ms := by
  obtain ⟨i, m, f, h, ps, es, S, h1, h2, pm, lm, nd⟩ := h
  exact ⟨i, m, f, h, ps, es, S, by omega, by omega, pm, by omega, nd⟩
theorem X09.ok {D t e : Nat} {met : Str} {s : PgS} {ms : List Mt} (h : X09 D met t e s ms) : (∀ x ∈ ms, MtOk D x) ∧ ms.length ≤ e ∧ (ms.map kyM).Nodup := by
  obtain ⟨i, m, f, h, ps, es, S, h1, h2, pm, lm, nd⟩ := h
  exact ⟨fun x hx => S.K.ok x (pm.mem_iff.mp hx), lm, nd⟩
/-- an item of the first n that were put in -/
def Bg (n : Nat) (x : Mt) : Prop := ∃ j : Nat, j < n ∧ (x.y = (j : Int) ∨ x.y = 4294967295 - (j : Int))
section
variable {P : Program} {w : World} {K : PySem.W.Frag} {mg : Str → Option Value} {base : Heap} {c : Cl}
def sp_built9 (c : Cl) (K : PySem.W.Frag) : Sp := fun vs H Q _ => ∃ (st sc kt p q : Addr) (D : Nat) (sp : Int) (met : Str) (O Od : Addr → Prop) (s : PgS), vs = [.ref st, .ref sc, .ref kt, .int (D : Nat), .int sp] ∧ 0 < D ∧ D ≤ 8 ∧ 0 ≤ sp ∧ sp ≤ 32767 ∧ Dr K H st sc ∧ MW c H kt p q 1 D met O Od s ∧ ¬ O st ∧ X09 D met 0 0 s [] ∧
  ∀ H' ml O' Od' s' ms, W09 c K (fun b => O b ∨ b = st) H H' st sc kt p q ml D met O' Od' s' ms → X09 D met 240 160 s' ms → (∀ x ∈ ms, Bg 160 x) → Q (.ref ml) H'
theorem ok__law_built (T : Txt K mg c) : GF P w K mg base CX0 178 "_law_built" (sp_built9 c K) := by
  obtain ⟨f, fd, F, gm⟩ := T.f__law_built
  have tc_MetricTree := T.cl_MetricTree; have tn_MetricTree_pager := T.n_MetricTree_pager; have tn_MetricTree_root := T.n_MetricTree_root; have tn_MetricTree_dimensions := T.n_MetricTree_dimensions; have tn_MetricTree_metric := T.n_MetricTree_metric
  refine ⟨f, fd, ["_law_state", "_law_script", "_law_tree", "_law_many", "_law_span"], F.ok sc__law_built ?_ (fun cdv A outer s0 H vs Q E hr h => ?_), gm, F.kp, (F.binds (ps := ["_law_state", "_law_script", "_law_tree", "_law_many", "_law_span"]) fun _ _ _ _ _ _ us hl => match us, hl with | [_, _, _, _, _], _ => rfl)⟩
  · rintro vs H Q E ⟨_, _, _, _, _, _, _, _, _, _, _, rfl, _⟩
    rfl
  · obtain ⟨st, sc, kt, p, q, D, sp, met, O0, Od, s0, rfl, D0, hD, sp0, sp1, d0, kw0, so0, X0, k⟩ := h
    refine ⟨_, (pss_cons (ps_set (i := 5) sc__law_built.nd rfl (Or.inl rfl) (pe_lst pa_nil))
      (pss_cons (ps_set (i := 6) sc__law_built.nd rfl (Or.inl rfl) (pe_g (ok__law_draw T) (hr.mono (by decide)) pass0S (pa_cons (pv 0) (pa_cons (pv 1) (pa_cons pe_int pa_nil)))))
      (C8.pss_cut (ps_if (pt_cmpR op_eq (pe_g (ok__law_draw T) (hr.mono (by decide)) pass0S (pa_cons (pv 0) (pa_cons (pv 1) (pa_cons pe_int pa_nil)))) pe_int (nomark _)) (pss_one (ps_set (i := 6) sc__law_built.nd rfl (Or.inl rfl) (pe_op op_add (pv 6) pe_int))) pss_nil)
      (pss_cons (ps_for PassesOwn.never rfl (pi_range1 (by rfl) T.z_range (pa_cons (pv 6) pa_nil)) (pg_name (i := 7) sc__law_built.nd rfl (Or.inl rfl)) (pss_cons (ps_set (i := 8) sc__law_built.nd rfl (Or.inl rfl) (pe_g (ok__law_point T) (hr.mono (by decide)) pass0S (pa_cons (pv 0) (pa_cons (pv 1) (pa_cons (pv 3) (pa_cons (pv 4) pa_nil))))))
      (C8.pss_cut (ps_if (PW.pt (pw_and (pt_cmpR op_gt (pv 7) pe_int (nomark _)) (pw_and1 (pt_cmpR op_eq (pe_g (ok__law_draw T) (hr.mono (by decide)) pass0S (pa_cons (pv 0) (pa_cons (pv 1) (pa_cons pe_int pa_nil)))) pe_int (nomark _))))) (pss_one (ps_set (i := 8) sc__law_built.nd rfl (Or.inl rfl) (pe_ix (r := rIxT K) ix_tup (pe_ix (r := rIxL K) ix_list (pv 5) (pe_g (ok__law_draw T) (hr.mono (by decide)) pass0S (pa_cons (pv 0) (pa_cons (pv 1) (pa_cons (pe_callB (r := rLenQ K) c_len (by rfl) T.z_len PySem.boot_len (pa_cons (pv 5) pa_nil)) pa_nil)))) (fun _ _ => rfl)) pe_int (fun _ _ => rfl)))) pss_nil)
      (pss_cons (ps_set (i := 9) sc__law_built.nd rfl (Or.inl rfl) (pe_ix (r := rIxL K) ix_list (pe_lst (pa_cons (pv 7) (pa_cons (pe_op op_sub pe_int (pv 7)) pa_nil))) (pe_g (ok__law_draw T) (hr.mono (by decide)) pass0S (pa_cons (pv 0) (pa_cons (pv 1) (pa_cons pe_int pa_nil)))) (fun _ _ => rfl)))
      (pss_cons (ps_set (i := 10) sc__law_built.nd rfl (Or.inl rfl) (pe_tup (pa_cons (pe_g (ok__law_draw T) (hr.mono (by decide)) pass0S (pa_cons (pv 0) (pa_cons (pv 1) (pa_cons pe_int pa_nil)))) (pa_cons (pv 9) (pa_cons (pv 8) pa_nil)))))
      (pss_cons (ps_expr (pe_gm T.cl_MetricTree (ok_MetricTree_insert T) (pv 2) (hr.mono (by decide)) pass0S (pa_cons (pv 10) pa_nil)))
      (pss_one (ps_expr (pe_kBM rfl (pe_bm PySem.F.plainAttrs_list PySem.F.slot_list_append PySem.F.type_list_append mt_append (pv 5) (pa_cons (pv 10) pa_nil)))))))))))
      (pss_cons (ps_for PassesOwn.never rfl (pi_range1 (by rfl) T.z_range (pa_cons (pe_g (ok__law_draw T) (hr.mono (by decide)) pass0S (pa_cons (pv 0) (pa_cons (pv 1) (pa_cons (pe_op op_add pe_int (pe_op op_fdivW (pe_callB (r := rLenQ K) c_len (by rfl) T.z_len PySem.boot_len (pa_cons (pv 5) pa_nil)) pe_int)) pa_nil)))) pa_nil)) (pg_name (i := 7) sc__law_built.nd rfl (Or.inl rfl)) (pss_one (ps_expr (pe_gm T.cl_MetricTree (ok_MetricTree_delete T) (pv 2) (hr.mono (by decide)) pass0S (pa_cons (pe_kBM rfl (pe_bm PySem.F.plainAttrs_list PySem.F.slot_list_pop PySem.F.type_list_pop mt_popAt (pv 5) (pa_cons (pe_g (ok__law_draw T) (hr.mono (by decide)) pass0S (pa_cons (pv 0) (pa_cons (pv 1) (pa_cons (pe_callB (r := rLenQ K) c_len (by rfl) T.z_len PySem.boot_len (pa_cons (pv 5) pa_nil)) pa_nil)))) pa_nil))) pa_nil)))))
      (pss_one (ps_ret (pv 5)))))))), ?_⟩
    walk_at "cx"
    walk_at "rd"
    refine x_newL fun ml H1 hml k1 e1 => ?_
    have W1 : W09 c K (fun b => O0 b ∨ b = st) H H1 st sc kt p q ml D met O0 Od s0 [] := by
      obtain ⟨_, hs⟩ := d0.trk
      exact ⟨d0.kp k1 id, kw0.pure k1, ⟨[], e1, .nil⟩, so0, kw0.pg.fresh hml, ne_of_none hs hml, k1.mono fun _ z => z.elim, fun b z => z.elim (fun z => .inl (.inl z)) fun z => z.elim (fun z => .inl (.inr z)) fun z => .inr (by rw [z]; exact hml)⟩
    walk_at "rd"
    refine ⟨st, sc, 61, rfl, by decide, by decide, W1.dr, fun N0 H2 n0 n1 dr2 k2 => ?_⟩
    have W2 := W1.draw k2 dr2
    walk_at "rd"
    refine x_cut (fun σ' H' => ∃ N : Nat, N ≤ 160 ∧ σ' = [some (.ref st), some (.ref sc), some (.ref kt), some (.int (D : Nat)), some (.int sp), some (.ref ml), some (.int (N : Nat)), none, none, none, none] ∧ W09 c K (fun b => O0 b ∨ b = st) H H' st sc kt p q ml D met O0 Od s0 []) ?_ ?_
    · walk_at "rd"
      refine ⟨st, sc, 6, rfl, by decide, by decide, W2.dr, fun d9 H9 d90 d91 dr9 k9 => ?_⟩
      have W9 := W2.draw k9 dr9
      obtain ⟨N, rfl⟩ := Int.eq_ofNat_of_zero_le n0
      walk_at "rd"
      refine ite_dec (fun e => ?_) fun e => ?_
      · walk_at "rd"
        exact ⟨N + 100, by omega, by rw [Int.natCast_add]; rfl, W9⟩
      · walk_at "rd"
        exact ⟨N, by omega, rfl, W9⟩
    · rintro σ' H3 ⟨N, N160, rfl, W3⟩
      walk_at "rd"
      have lN : (rgl 0 ((N : Nat) : Int).toNat).length = N := by rw [rgl_len]; omega
      refine wfor Wk.rng (fun i σ H' => ∃ O Od s ms u7 u8 u9 u10, σ = [some (.ref st), some (.ref sc), some (.ref kt), some (.int (D : Nat)), some (.int sp), some (.ref ml), some (.int (N : Nat)), u7, u8, u9, u10] ∧ W09 c K (fun b => O0 b ∨ b = st) H H' st sc kt p q ml D met O Od s ms ∧ X09 D met i i s ms ∧ ms.length = i ∧ ∀ x ∈ ms, Bg i x)
        ⟨O0, Od, s0, [], none, none, none, none, rfl, W3, X0, rfl, fun x hx => by simp at hx⟩ (fun _ _ _ _ => trivial) ?_ ?_
      · rintro i x σ HB ex ⟨O, Od, s, ms, u7, u8, u9, u10, rfl, WB, XB, lms, hms⟩
        obtain ⟨hi, rfl⟩ := rgl_at ex
        have hi' : i < N := by omega
        walk_at "rd"
        refine ⟨st, sc, (D : Int), sp, rfl, by omega, by omega, sp0, by omega, WB.dr, fun p1 HC pt lpt bpt ep1 drC kC => ?_⟩
        have WC := WB.draw kC drC
        obtain ⟨okB, _, _⟩ := XB.ok
        walk_at "rd"
        refine x_cut (fun σ' H' => ∃ pa pt, σ' = [some (.ref st), some (.ref sc), some (.ref kt), some (.int (D : Nat)), some (.int sp), some (.ref ml), some (.int (N : Nat)), some (.int (0 + (i : Int))), some (.ref pa), u9, u10] ∧ W09 c K (fun b => O0 b ∨ b = st) H H' st sc kt p q ml D met O Od s ms ∧ SqT K H' pa (pt.map V.int) ∧ pt.length = D ∧ Crd pt) ?_ ?_
        · have fall : ∃ pa pt', [some (.ref st), some (.ref sc), some (.ref kt), some (.int (D : Nat)), some (.int sp), some (.ref ml), some (.int (N : Nat)), some (.int (0 + (i : Int))), some (V.ref p1), u9, u10] = [some (.ref st), some (.ref sc), some (.ref kt), some (.int (D : Nat)), some (.int sp), some (.ref ml), some (.int (N : Nat)), some (.int (0 + (i : Int))), some (.ref pa), u9, u10] ∧ W09 c K (fun b => O0 b ∨ b = st) H HC st sc kt p q ml D met O Od s ms ∧ SqT K HC pa (pt'.map V.int) ∧ pt'.length = D ∧ Crd pt' := ⟨p1, pt, rfl, WC, SqT.of ep1, by omega, fun x hx => by have := bpt x hx; omega⟩
          walk_at "rd"
          refine if_both ?_ fun hb rest => ?_
          · walk_at "rd"
            exact fall
          · have hi0 : 0 < i := by have := of_decide_eq_true hb; omega
            walk_at "rd"
            refine ⟨st, sc, 4, rfl, by decide, by decide, WC.dr, fun d4 H4 d40 d41 dr4 k4 => ?_⟩
            have W4 := WC.draw k4 dr4
            have ep14 := k4.tup ep1
            obtain ⟨mvs4, hml4, pm4⟩ := W4.mv
            have lm4 := pm4.length
            walk_at "rd"
            refine ite_dec (fun e => ?_) fun e => ?_
            · walk_at "rd"
              rw [lm4]
              refine ⟨st, sc, (ms.length : Int), rfl, by omega, by omega, W4.dr, fun j H5 j0 j1 dr5 k5 => ?_⟩
              have W5 := W4.draw k5 dr5
              obtain ⟨mvs5, hml5, pm5⟩ := W5.mv
              obtain ⟨jn, rfl⟩ := Int.eq_ofNat_of_zero_le j0
              obtain ⟨y, ey⟩ : ∃ y, ms[jn]? = some y := ⟨_, List.getElem?_eq_getElem (by omega)⟩
              obtain ⟨v5, ev5, t5, q5, rfl, ht5, hq5⟩ := pgetr pm5 ey
              have ht5' : SqT K H5 t5 [.int y.x, .int y.y, .ref q5] := ht5
              have oky := okB y (List.mem_of_getElem? ey)
              walk_at "rd"
              refine x_ixL (v := .ref t5) (SqL.of hml5) (atI_at jn rfl ev5) ?_
              walk_at "rd"
              exact ⟨q5, y.p, rfl, W5, hq5, oky.l, oky.c⟩
            · walk_at "rd"
              exact ⟨p1, pt, rfl, W4, SqT.of ep14, by omega, fun x hx => by have := bpt x hx; omega⟩
        · rintro σ' HD ⟨pa, pt, rfl, WD, hpa, lpt, cpt⟩
          walk_at "rd"
          refine x_newL fun l5 HE hl5 kE eE => ?_
          have WE := WD.pure kE
          walk_at "rd"
          refine ⟨st, sc, 2, rfl, by decide, by decide, WE.dr, fun d2 HF d20 d21 drF kF => ?_⟩
          have WF := WE.draw kF drF
          have nsl : l5 ≠ st := by
            obtain ⟨_, hs⟩ := WD.dr.trk
            exact (ne_of_none hs hl5).symm
          have eF := kF.get eE nsl
          have hpaF := kF.sqT (kE.sqT hpa)
          have bgn : ∃ bg : Int, atI [V.int (0 + (i : Int)), .int (4294967295 - (0 + (i : Int)))] d2 = some (.int bg) ∧ (bg = (i : Int) ∨ bg = 4294967295 - (i : Int)) := by
            have c2 : d2 = 0 ∨ d2 = 1 := by omega
            rcases c2 with rfl | rfl
            · exact ⟨_, rfl, .inl (by omega)⟩
            · exact ⟨_, rfl, .inr (by omega)⟩
          obtain ⟨bg, eb, hbg⟩ := bgn
          walk_at "rd"
          refine ⟨st, sc, 30, rfl, by decide, by decide, WF.dr, fun ky HG ky0 ky1 drG kG => ?_⟩
          have WG := WF.draw kG drG
          have hpaG := kG.sqT hpaF
          walk_at "rd"
          refine x_newT fun te HI hte kI eI => ?_
          have WI := WG.pure kI
          have hit : MtOk D ⟨pt, ky, bg⟩ := ⟨ky0, by show ky < 256 ^ 4; omega, by show 0 ≤ bg; omega, by show bg < 256 ^ 4; omega, lpt, cpt⟩
          have hne : ∀ x ∈ ms, kyM x ≠ kyM ⟨pt, ky, bg⟩ := fun x hx e => by
            obtain ⟨j, hj, ej⟩ := hms x hx
            have e1 : x.y = bg := congrArg Prod.snd e
            omega
          have mv : MtV K HI 3 (.ref te) ⟨pt, ky, bg⟩ := ⟨te, pa, rfl, SqT.of eI, kI.sqT hpaG⟩
          obtain ⟨dx, ho⟩ := WI.kw.ka.o
          obtain ⟨path, l, e0, s1, s', ds, lp, sm, X'⟩ := XB.ins hD hit hne (by omega) (by omega)
          walk_at "rd"
          refine ⟨kt, p, q, 1, D, met, _, _, l, path, e0, O, Od, s, s1, s', rfl, WI.kw, mv, lpt, D0, hD, ds, lp, sm, fun HJ O' PJ tJ => ?_⟩
          have WJ := WI.pager PJ tJ
          obtain ⟨mvsJ, hmlJ, pmJ⟩ := WJ.mv
          have lmJ := pmJ.length
          have mvJ := mv.kp tJ.kp
          walk_at "rd"
          refine x_app hmlJ (by omega) fun HK eK kK => ?_
          have WK := WJ.put kK eK (pr_app (pmJ.mono fun _ _ z => z.kp kK) (.cons (mvJ.kp kK) .nil))
          refine ⟨O', Od, s', _, _, _, _, _, rfl, WK, X', by rw [List.length_append, lms]; rfl, fun x hx => ?_⟩
          rcases List.mem_append.mp hx with hx | hx
          · obtain ⟨j, hj, ej⟩ := hms x hx
            exact ⟨j, by omega, ej⟩
          · rw [List.mem_singleton.mp hx]
            exact ⟨i, by omega, hbg⟩
      · rintro σ H4 ⟨O, Od, s, ms, u7, u8, u9, u10, rfl, W4, X4, lms, hms⟩
        rw [lN] at lms X4 hms
        obtain ⟨mvs4, hml4, pm4⟩ := W4.mv
        have lm4 := pm4.length
        walk_at "rd"
        rw [lm4]
        refine ⟨st, sc, 1 + (ms.length : Int) / 3, rfl, by omega, by omega, W4.dr, fun dn H5 dn0 dn1 dr5 k5 => ?_⟩
        have W5 := W4.draw k5 dr5
        obtain ⟨N2, rfl⟩ := Int.eq_ofNat_of_zero_le dn0
        have hN2 : 3 * N2 ≤ ms.length := by omega
        walk_at "rd"
        have lN2 : (rgl 0 ((N2 : Nat) : Int).toNat).length = N2 := by rw [rgl_len]; omega
        generalize hL : ms.length = L at hN2
        refine wfor Wk.rng (fun i σ H' => ∃ O Od s ms u7, σ = [some (.ref st), some (.ref sc), some (.ref kt), some (.int (D : Nat)), some (.int sp), some (.ref ml), some (.int (N : Nat)), u7, u8, u9, u10] ∧ W09 c K (fun b => O0 b ∨ b = st) H H' st sc kt p q ml D met O Od s ms ∧ X09 D met (160 + i) 160 s ms ∧ ms.length + i = L ∧ ∀ x ∈ ms, Bg 160 x)
          ⟨O, Od, s, ms, u7, rfl, W5, X4.le (by omega) (by omega), hL, fun x hx => by obtain ⟨j, hj, ej⟩ := hms x hx; exact ⟨j, by omega, ej⟩⟩ (fun _ _ _ _ => trivial) ?_ ?_
        · rintro i x σ HB ex ⟨O, Od, s, ms, u7, rfl, WB, XB, lmB, hmB⟩
          obtain ⟨hi, rfl⟩ := rgl_at ex
          have hi' : i < N2 := by omega
          obtain ⟨okB, _, _⟩ := XB.ok
          obtain ⟨mvsB, hmlB, pmB⟩ := WB.mv
          have lvB := pmB.length
          obtain ⟨dx, ho⟩ := WB.kw.ka.o
          walk_at "rd"
          rw [lvB]
          refine ⟨st, sc, (ms.length : Int), rfl, by omega, by omega, WB.dr, fun j H6 j0 j1 dr6 k6 => ?_⟩
          have W6 := WB.draw k6 dr6
          obtain ⟨jn, rfl⟩ := Int.eq_ofNat_of_zero_le j0
          obtain ⟨y, ey⟩ : ∃ y, ms[jn]? = some y := ⟨_, List.getElem?_eq_getElem (by omega)⟩
          obtain ⟨mvs3, hml3, pm3⟩ := W6.mv
          have lm3 := pm3.length
          obtain ⟨v3, ev3, r3⟩ := pgetr pm3 ey
          walk_at "rd"
          refine ⟨ml, mvs3, (jn : Nat), jn, v3, rfl, rfl, hml3, by omega, by omega, seqIx (by omega), ev3, ?_⟩
          have kA : Kp (F1 ml) H6 (upd H6 ml (.lst (mvs3.eraseIdx jn))) := Kp.put hml3 id
          have eA : (upd H6 ml (.lst (mvs3.eraseIdx jn)) : Hp) ml = some (.lst (mvs3.eraseIdx jn)) := upd_same
          generalize upd H6 ml (.lst (mvs3.eraseIdx jn)) = HA at kA eA ⊢
          have WA := W6.put kA eA (pr_erase jn (pm3.mono fun _ _ z => z.kp kA))
          have rA := r3.kp kA
          obtain ⟨path, l, e0, k1, s1, mm, kd, its, s', fd, dec, dl, dec1, lw, lit, X'⟩ := XB.del hD ey (by omega) (by omega)
          refine ⟨kt, p, q, 1, D, mm, met, v3, y, l, kd, path, e0, its, k1, O, Od, s, s1, s', rfl, WA.kw, rA, lit, D0, hD, fd, dec, dl, dec1, lw, fun HJ O' PJ tJ => ?_⟩
          have WJ := WA.pager PJ tJ
          walk_at "rd"
          exact ⟨O', Od, s', _, _, rfl, WJ, X', by rw [List.length_eraseIdx_of_lt (by omega)]; omega, fun x hx => hmB x (List.mem_of_mem_eraseIdx hx)⟩
        · rintro σ H6 ⟨O, Od, s, ms, u7, rfl, W6, X6, lm6, hm6⟩
          rw [lN2] at X6
          walk_at "rd"
          exact k H6 ml O Od s ms W6 (X6.le (by omega) (by omega)) hm6
/-- a turn: perhaps one out, perhaps one in -/
def sp_turned9 (c : Cl) (K : PySem.W.Frag) : Sp := fun vs H Q _ => ∃ (st sc kt p q ml : Addr) (D t e n : Nat) (sp : Int) (met : Str) (O Od : Addr → Prop) (s : PgS) (ms : List Mt), vs = [.ref st, .ref sc, .ref kt, .ref ml, .int (n : Nat), .int (D : Nat), .int sp] ∧ 0 < D ∧ D ≤ 8 ∧ 0 ≤ sp ∧ sp ≤ 32767 ∧ W09 c K (Gw O st ml) H H st sc kt p q ml D met O Od s ms ∧ X09 D met t e s ms ∧ t ≤ 290 ∧ e ≤ 165 ∧ n ≤ 10 ∧ (∀ x ∈ ms, x.y ≠ 200 + (n : Int)) ∧
  ∀ H' O' Od' s' ms', W09 c K (Gw O st ml) H H' st sc kt p q ml D met O' Od' s' ms' → X09 D met (t + 2) (e + 1) s' ms' → (∀ x ∈ ms', x ∈ ms ∨ x.y = 200 + (n : Int)) → Q .non H'
theorem ok__law_turned (T : Txt K mg c) : GF P w K mg base CX0 178 "_law_turned" (sp_turned9 c K) := by
  obtain ⟨f, fd, F, gm⟩ := T.f__law_turned
  have tc_MetricTree := T.cl_MetricTree; have tn_MetricTree_pager := T.n_MetricTree_pager; have tn_MetricTree_root := T.n_MetricTree_root; have tn_MetricTree_dimensions := T.n_MetricTree_dimensions; have tn_MetricTree_metric := T.n_MetricTree_metric
  refine ⟨f, fd, ["_law_state", "_law_script", "_law_tree", "_law_model", "_law_turn", "_law_many", "_law_span"], F.ok sc__law_turned ?_ (fun cdv A outer s0 H vs Q E hr h => ?_), gm, F.kp, (F.binds (ps := ["_law_state", "_law_script", "_law_tree", "_law_model", "_law_turn", "_law_many", "_law_span"]) fun _ _ _ _ _ _ us hl => match us, hl with | [_, _, _, _, _, _, _], _ => rfl)⟩
  · rintro vs H Q E ⟨_, _, _, _, _, _, _, _, _, _, _, _, _, _, _, _, rfl, _⟩
    rfl
  · obtain ⟨st, sc, kt, p, q, ml, D, t, e, n, sp, met, O0, Od0, s0, ms0, rfl, D0, hD, sp0, sp1, W0, X0, ht, he, hn, hne0, k⟩ := h
    refine ⟨_, (C8.pss_cut (ps_if (PW.pt (pw_and (pt_cmpR op_gt (pe_callB (r := rLenQ K) c_len (by rfl) T.z_len PySem.boot_len (pa_cons (pv 3) pa_nil)) pe_int (nomark _)) (pw_and1 (pt_cmpR op_eq (pe_g (ok__law_draw T) (hr.mono (by decide)) pass0S (pa_cons (pv 0) (pa_cons (pv 1) (pa_cons pe_int pa_nil)))) pe_int (nomark _))))) (pss_one (ps_expr (pe_gm T.cl_MetricTree (ok_MetricTree_delete T) (pv 2) (hr.mono (by decide)) pass0S (pa_cons (pe_kBM rfl (pe_bm PySem.F.plainAttrs_list PySem.F.slot_list_pop PySem.F.type_list_pop mt_popAt (pv 3) (pa_cons (pe_g (ok__law_draw T) (hr.mono (by decide)) pass0S (pa_cons (pv 0) (pa_cons (pv 1) (pa_cons (pe_callB (r := rLenQ K) c_len (by rfl) T.z_len PySem.boot_len (pa_cons (pv 3) pa_nil)) pa_nil)))) pa_nil))) pa_nil)))) pss_nil)
      (pss_one (ps_if (pt_cmpR op_eq (pe_g (ok__law_draw T) (hr.mono (by decide)) pass0S (pa_cons (pv 0) (pa_cons (pv 1) (pa_cons pe_int pa_nil)))) pe_int (nomark _)) (pss_cons (ps_set (i := 7) sc__law_turned.nd rfl (Or.inl rfl) (pe_tup (pa_cons (pe_g (ok__law_draw T) (hr.mono (by decide)) pass0S (pa_cons (pv 0) (pa_cons (pv 1) (pa_cons pe_int pa_nil)))) (pa_cons (pe_op op_add pe_int (pv 4)) (pa_cons (pe_g (ok__law_point T) (hr.mono (by decide)) pass0S (pa_cons (pv 0) (pa_cons (pv 1) (pa_cons (pv 5) (pa_cons (pv 6) pa_nil))))) pa_nil)))))
      (pss_cons (ps_expr (pe_gm T.cl_MetricTree (ok_MetricTree_insert T) (pv 2) (hr.mono (by decide)) pass0S (pa_cons (pv 7) pa_nil)))
      (pss_one (ps_expr (pe_kBM rfl (pe_bm PySem.F.plainAttrs_list PySem.F.slot_list_append PySem.F.type_list_append mt_append (pv 3) (pa_cons (pv 7) pa_nil))))))) pss_nil))), ?_⟩
    walk_at "cx"
    refine x_cut (fun σ' H' => ∃ O Od s ms, σ' = [some (.ref st), some (.ref sc), some (.ref kt), some (.ref ml), some (.int (n : Nat)), some (.int (D : Nat)), some (.int sp), none] ∧ W09 c K (Gw O0 st ml) H H' st sc kt p q ml D met O Od s ms ∧ X09 D met (t + 1) e s ms ∧ ∀ x ∈ ms, x ∈ ms0) ?_ ?_
    · obtain ⟨okB, _, _⟩ := X0.ok
      obtain ⟨mvsB, hmlB, pmB⟩ := W0.mv
      have lvB := pmB.length
      walk_at "rd"
      rw [lvB]
      refine if_both ?_ fun hb rest => ?_
      · walk_at "rd"
        exact ⟨O0, Od0, s0, ms0, rfl, W0, X0.le (by omega) (by omega), fun _ z => z⟩
      · have hpos : 0 < ms0.length := by have := of_decide_eq_true hb; omega
        walk_at "rd"
        refine ⟨st, sc, 2, rfl, by decide, by decide, W0.dr, fun d2 H2 d20 d21 dr2 k2 => ?_⟩
        have W2 := W0.draw k2 dr2
        obtain ⟨mvs2, hml2, pm2⟩ := W2.mv
        have lv2 := pm2.length
        obtain ⟨dx, ho⟩ := W2.kw.ka.o
        walk_at "rd"
        refine ite_dec (fun e => ?_) fun e => ?_
        · walk_at "rd"
          rw [lv2]
          refine ⟨st, sc, (ms0.length : Int), rfl, by omega, by omega, W2.dr, fun j H6 j0 j1 dr6 k6 => ?_⟩
          have W6 := W2.draw k6 dr6
          obtain ⟨jn, rfl⟩ := Int.eq_ofNat_of_zero_le j0
          obtain ⟨y, ey⟩ : ∃ y, ms0[jn]? = some y := ⟨_, List.getElem?_eq_getElem (by omega)⟩
          obtain ⟨mvs3, hml3, pm3⟩ := W6.mv
          have lm3 := pm3.length
          obtain ⟨v3, ev3, r3⟩ := pgetr pm3 ey
          walk_at "rd"
          refine ⟨ml, mvs3, (jn : Nat), jn, v3, rfl, rfl, hml3, by omega, by omega, seqIx (by omega), ev3, ?_⟩
          have kA : Kp (F1 ml) H6 (upd H6 ml (.lst (mvs3.eraseIdx jn))) := Kp.put hml3 id
          have eA : (upd H6 ml (.lst (mvs3.eraseIdx jn)) : Hp) ml = some (.lst (mvs3.eraseIdx jn)) := upd_same
          generalize upd H6 ml (.lst (mvs3.eraseIdx jn)) = HA at kA eA ⊢
          have WA := W6.put kA eA (pr_erase jn (pm3.mono fun _ _ z => z.kp kA))
          have rA := r3.kp kA
          obtain ⟨path, l, e0, k1, s1, mm, kd, its, s', fd, dec, dl, dec1, lw, lit, X'⟩ := X0.del hD ey (by omega) (by omega)
          refine ⟨kt, p, q, 1, D, mm, met, v3, y, l, kd, path, e0, its, k1, O0, Od0, s0, s1, s', rfl, WA.kw, rA, lit, D0, hD, fd, dec, dl, dec1, lw, fun HJ O' PJ tJ => ?_⟩
          have WJ := WA.pager PJ tJ
          walk_at "rd"
          exact ⟨O', Od0, s', _, rfl, WJ, X', fun x hx => List.mem_of_mem_eraseIdx hx⟩
        · walk_at "rd"
          exact ⟨O0, Od0, s0, ms0, rfl, W2, X0.le (by omega) (by omega), fun _ z => z⟩
    · rintro σ' H3 ⟨O, Od, s, ms, rfl, W3, X3, sub⟩
      walk_at "rd"
      refine ⟨st, sc, 2, rfl, by decide, by decide, W3.dr, fun d2 H2 d20 d21 dr2 k2 => ?_⟩
      have W2 := W3.draw k2 dr2
      walk_at "rd"
      refine ite_dec (fun e => ?_) fun e => ?_
      · walk_at "rd"
        refine ⟨st, sc, 30, rfl, by decide, by decide, W2.dr, fun ky HG ky0 ky1 drG kG => ?_⟩
        have WG := W2.draw kG drG
        walk_at "rd"
        refine ⟨st, sc, (D : Int), sp, rfl, by omega, by omega, sp0, by omega, WG.dr, fun p1 HC pt lpt bpt ep1 drC kC => ?_⟩
        have WC := WG.draw kC drC
        obtain ⟨okB, lms, _⟩ := X3.ok
        walk_at "rd"
        refine x_newT fun te HI hte kI eI => ?_
        have WI := WC.pure kI
        have hit : MtOk D ⟨pt, ky, 200 + (n : Int)⟩ := ⟨ky0, by show ky < 256 ^ 4; omega, by show 0 ≤ 200 + (n : Int); omega, by show 200 + (n : Int) < 256 ^ 4; omega, by show pt.length = D; omega, fun x hx => by have := bpt x hx; omega⟩
        have hne : ∀ x ∈ ms, kyM x ≠ kyM ⟨pt, ky, 200 + (n : Int)⟩ := fun x hx e => hne0 x (sub x hx) (congrArg Prod.snd e)
        have mv : MtV K HI 3 (.ref te) ⟨pt, ky, 200 + (n : Int)⟩ := ⟨te, p1, rfl, SqT.of eI, kI.sqT (SqT.of ep1)⟩
        obtain ⟨dx, ho⟩ := WI.kw.ka.o
        obtain ⟨path, l, e0, s1, s', ds, lp, sm, X'⟩ := X3.ins hD hit hne (by omega) (by omega)
        walk_at "rd"
        refine ⟨kt, p, q, 1, D, met, _, _, l, path, e0, O, Od, s, s1, s', rfl, WI.kw, mv, hit.l, D0, hD, ds, lp, sm, fun HJ O' PJ tJ => ?_⟩
        have WJ := WI.pager PJ tJ
        obtain ⟨mvsJ, hmlJ, pmJ⟩ := WJ.mv
        have lmJ := pmJ.length
        have mvJ := mv.kp tJ.kp
        walk_at "rd"
        refine x_app hmlJ (by omega) fun HK eK kK => ?_
        have WK := WJ.put kK eK (pr_app (pmJ.mono fun _ _ z => z.kp kK) (.cons (mvJ.kp kK) .nil))
        walk_at "rd"
        refine k HK O' Od s' _ WK X' fun x hx => ?_
        rcases List.mem_append.mp hx with hx | hx
        · exact .inl (sub x hx)
        · rw [List.mem_singleton.mp hx]
          exact .inr rfl
      · walk_at "rd"
        exact k H2 O Od s ms W2 (X3.le (by omega) (by omega)) fun x hx => .inl (sub x hx)
end
section
variable {P : Program} {w : World} {K : PySem.W.Frag} {mg : Str → Option Value} {base : Heap} {c : Cl}
def isM (m : Str) : Prop := m = "sum" ∨ m = "greatest" ∨ m = "unlike"
def sp_far (K : PySem.W.Frag) : Sp := fun vs H Q _ => ∃ (m : Str) (pa pb : Addr) (a b : List Int), vs = [.str m, .ref pa, .ref pb] ∧ isM m ∧ SqT K H pa (a.map V.int) ∧ SqT K H pb (b.map V.int) ∧ a.length = b.length ∧ 0 < a.length ∧ a.length ≤ 1000 ∧ Q (.int (dist m a b)) H
/-- the distance of the first i coordinates -/
def farP (m : Str) (a b : List Int) (i : Nat) : Int := if m = "sum" then ((diffs a b).take i).sum else if m = "greatest" then mx ((diffs a b).take i) else (((diffs a b).take i).map pos1).sum
theorem farP_succ {m : Str} {a b : List Int} {i : Nat} (h : i < a.length) (e : a.length = b.length) :
    farP m a b (i + 1) = if m = "sum" then farP m a b i + gap (a.getD i 0) (b.getD i 0) else if m = "greatest" then max (farP m a b i) (gap (a.getD i 0) (b.getD i 0)) else farP m a b i + pos1 (gap (a.getD i 0) (b.getD i 0)) := by
  have q : (diffs a b)[i]? = some (gap (a.getD i 0) (b.getD i 0)) := by
    have z := diffs_get h e
    rw [List.getElem?_map] at z
    cases w : (diffs a b)[i]? with
    | none => rw [w] at z; cases z
    | some u => rw [w] at z; cases z; rfl
  have t : (diffs a b).take (i + 1) = (diffs a b).take i ++ [gap (a.getD i 0) (b.getD i 0)] := by rw [List.take_succ, q]; rfl
  unfold farP
  rw [t]
  split
  · rw [List.sum_append]; simp
  · split
    · rw [mx_app _ _ (gap_nn _ _)]
    · rw [List.map_append, List.sum_append]; simp
theorem gap_max (x y : Int) : max (x - y) (y - x) = gap x y := by unfold gap; split <;> omega
theorem ok__law_far (T : Txt K mg c) : GF P w K mg base CX0 1 "_law_far" (sp_far K) := by
  obtain ⟨f, fd, F, gm⟩ := T.f__law_far
  refine ⟨f, fd, ["_law_metric", "_law_a", "_law_b"], F.ok sc__law_far ?_ (fun cdv A outer s H vs Q E hr h => ?_), gm, F.kp, (F.binds (ps := ["_law_metric", "_law_a", "_law_b"]) fun _ _ _ _ _ _ us hl => match us, hl with | [_, _, _], _ => rfl)⟩
  · rintro vs H Q E ⟨_, _, _, _, _, rfl, _⟩
    rfl
  · obtain ⟨m, pa, pb, a, b, rfl, hm, ha, hb, hl, h0, h1, k⟩ := h
    refine ⟨_, (pss_cons (ps_set (i := 3) sc__law_far.nd rfl (Or.inl rfl) pe_int)
      (pss_cons (ps_for PassesOwn.never rfl (pi_range1 (by rfl) T.z_range (pa_cons (pe_callB (r := rLenQ K) c_len (by rfl) T.z_len PySem.boot_len (pa_cons (pv 1) pa_nil)) pa_nil)) (pg_name (i := 4) sc__law_far.nd rfl (Or.inl rfl)) (pss_cons (ps_set (i := 5) sc__law_far.nd rfl (Or.inl rfl) (pe_callB (c_max2 rfl) (by rfl) T.z_max (by decide +kernel) (pa_cons (pe_op op_sub (pe_ix (r := rIxT K) ix_tup (pv 1) (pv 4) (fun _ _ => rfl)) (pe_ix (r := rIxT K) ix_tup (pv 2) (pv 4) (fun _ _ => rfl))) (pa_cons (pe_op op_sub (pe_ix (r := rIxT K) ix_tup (pv 2) (pv 4) (fun _ _ => rfl)) (pe_ix (r := rIxT K) ix_tup (pv 1) (pv 4) (fun _ _ => rfl))) pa_nil))))
      (C8.pss_cut (ps_if (pt_cmpR op_eq (pv 0) pe_str (nomark _)) (pss_one (ps_set (i := 3) sc__law_far.nd rfl (Or.inl rfl) (pe_op op_add (pv 3) (pv 5)))) pss_nil)
      (C8.pss_cut (ps_if (pt_cmpR op_eq (pv 0) pe_str (nomark _)) (pss_one (ps_set (i := 3) sc__law_far.nd rfl (Or.inl rfl) (pe_callB (c_max2 rfl) (by rfl) T.z_max (by decide +kernel) (pa_cons (pv 3) (pa_cons (pv 5) pa_nil))))) pss_nil)
      (pss_one (ps_if (PW.pt (pw_and (pt_cmpR op_eq (pv 0) pe_str (nomark _)) (pw_and1 (pt_cmpR op_gt (pv 5) pe_int (nomark _))))) (pss_one (ps_set (i := 3) sc__law_far.nd rfl (Or.inl rfl) (pe_op op_add (pv 3) pe_int))) pss_nil))))))
      (pss_one (ps_ret (pv 3))))), ?_⟩
    walk_at "cx"
    walk_at "rd"
    rw [List.length_map]
    walk_at "rd"
    refine wfor Wk.rng (fun i σ H' => ∃ u v, σ = [some (.str m), some (.ref pa), some (.ref pb), some (.int (farP m a b i)), u, v] ∧ H = H') ⟨none, none, ?_, rfl⟩ (fun _ _ _ _ => trivial) ?_ ?_
    · have : farP m a b 0 = 0 := by unfold farP; simp [mx]
      rw [this]; rfl
    · rintro i x σ H' ex ⟨u, v, rfl, rfl⟩
      obtain ⟨hi, rfl⟩ := rgl_at ex
      have hi' : i < a.length := hi
      have fs := farP_succ (m := m) hi' hl
      walk_at "rd"
      have ga := at_of_lt hi'
      have gb := at_of_lt (a := b) (i := i) (by omega)
      refine x_ixT ha (atI_at i (by omega) ga) ?_
      walk_at "rd"
      refine x_ixT hb (atI_at i (by omega) gb) ?_
      walk_at "rd"
      refine x_ixT hb (atI_at i (by omega) gb) ?_
      walk_at "rd"
      refine x_ixT ha (atI_at i (by omega) ga) ?_
      walk_at "rd"
      rw [gap_max]
      have d1 : ¬ (("greatest" : Str) = "sum") := by decide +kernel
      have d2 : ¬ (("unlike" : Str) = "sum") := by decide +kernel
      have d3 : ¬ (("unlike" : Str) = "greatest") := by decide +kernel
      have d4 : ¬ (("sum" : Str) = "greatest") := by decide +kernel
      have d5 : ¬ (("sum" : Str) = "unlike") := by decide +kernel
      have d6 : ¬ (("greatest" : Str) = "unlike") := by decide +kernel
      refine x_cut (fun σ' H' => σ' = [some (.str m), some (.ref pa), some (.ref pb), some (.int (if m = "sum" then farP m a b i + gap (a.getD i 0) (b.getD i 0) else farP m a b i)), some (.int (0 + (i : Nat))), some (.int (gap (a.getD i 0) (b.getD i 0)))] ∧ H = H') ?_ ?_
      · walk_at "rd"
        refine ite_dec (fun e => ?_) (fun e => ?_)
        · walk_at "rd"
          rw [if_pos e]; exact ⟨rfl, rfl⟩
        · rw [if_neg e]; exact ⟨rfl, rfl⟩
      · rintro σ' H' ⟨rfl, rfl⟩
        refine x_cut (fun σ' H' => σ' = [some (.str m), some (.ref pa), some (.ref pb), some (.int (if m = "sum" then farP m a b i + gap (a.getD i 0) (b.getD i 0) else if m = "greatest" then max (farP m a b i) (gap (a.getD i 0) (b.getD i 0)) else farP m a b i)), some (.int (0 + (i : Nat))), some (.int (gap (a.getD i 0) (b.getD i 0)))] ∧ H = H') ?_ ?_
        · walk_at "rd"
          refine ite_dec (fun e => ?_) (fun e => ?_)
          · subst e
            rw [if_neg d1, if_neg d1, if_pos rfl]
            walk_at "rd"
            exact ⟨rfl, rfl⟩
          · refine ⟨?_, rfl⟩
            rw [if_neg e]
        · rintro σ' H' ⟨rfl, rfl⟩
          walk_at "rd"
          refine ite_dec (fun e => ?_) (fun e => ?_)
          · subst e
            rw [if_neg d2, if_neg d3] at *
            walk_at "rd"
            refine ite_dec (fun e => ?_) (fun e => ?_)
            · walk_at "rd"
              refine ⟨some (.int (0 + (i : Nat))), some (.int (gap (a.getD i 0) (b.getD i 0))), ?_, rfl⟩
              rw [fs]; unfold pos1; rw [if_pos e]; rfl
            · refine ⟨some (.int (0 + (i : Nat))), some (.int (gap (a.getD i 0) (b.getD i 0))), ?_, rfl⟩
              rw [fs]; unfold pos1; rw [if_neg e, Int.add_zero]
          · refine ite_bool (fun z => by cases z) fun _ => ⟨some (.int (0 + (i : Nat))), some (.int (gap (a.getD i 0) (b.getD i 0))), ?_, rfl⟩
            rw [fs]
            rcases hm with rfl | rfl | rfl
            · rw [if_pos rfl, if_pos rfl]
            · rw [if_neg d1, if_pos rfl, if_neg d1, if_pos rfl]
            · exact (e rfl).elim
    · rintro σ H' ⟨u, v, rfl, rfl⟩
      walk_at "rd"
      have e : farP m a b (rgl 0 ((a.length : Int)).toNat).length = dist m a b := by
        rw [rgl_len]
        have : ((a.length : Int)).toNat = (diffs a b).length := by rw [diffs_len hl]; omega
        unfold farP dist
        rw [this, List.take_length]
      rw [e]
      exact k
end
/-! ### data of what is found; the asked pairs -/
theorem x_neSame {K : PySem.W.Frag} {H : Hp} {Q : VK} {u v : V} {d : PyData} {n : Nat} (hx : Dp K H u d) (hy : Dp K H v d) (sh : Sh n d) (hn : n ≤ 64) (q : Q (.bl false) H) : rNeD K u v H Q :=
  x_neD hx hy (sh.shaped hn) (sh.shaped hn) (by rw [eqv_dec (p := True) sh.2.2 sh.2.2 (iff_of_true rfl trivial)]; exact q)
theorem x_eqSame {K : PySem.W.Frag} {H : Hp} {Q : VK} {u v : V} {d : PyData} {n : Nat} (hx : Dp K H u d) (hy : Dp K H v d) (sh : Sh n d) (hn : n ≤ 64) (q : Q (.bl true) H) : rEqD K u v H Q :=
  x_eqD hx hy (sh.shaped hn) (sh.shaped hn) (by rw [eqv_dec (p := True) sh.2.2 sh.2.2 (iff_of_true rfl trivial)]; exact q)
def fdD (m : Str) (pt : List Int) (it : Mt) : PyData := .tuple [.int (dist m pt it.p), .int it.x, .int it.y, .tuple (it.p.map PyData.int)]
theorem fdD_sh (m : Str) (pt : List Int) (it : Mt) : Sh 2 (fdD m pt it) := Sh.tuple fun d hd => by
  have i1 : ∀ i : Int, Sh 1 (.int i) := fun i => ⟨(Sh.int i).1, Nat.le_trans (Sh.int i).2.1 (by decide), (Sh.int i).2.2⟩
  rcases List.mem_cons.mp hd with rfl | hd
  · exact i1 _
  · rcases List.mem_cons.mp hd with rfl | hd
    · exact i1 _
    · rcases List.mem_cons.mp hd with rfl | hd
      · exact i1 _
      · rw [List.mem_singleton.mp hd]
        exact Sh.tuple (sh_ints _)
theorem FdV.dp {K : PySem.W.Frag} {m : Str} {pt : List Int} {H : Hp} {v : V} {it : Mt} (h : FdV K m pt H v it) : Dp K H v (fdD m pt it) := by
  obtain ⟨t, q, rfl, ht, hq⟩ := h
  exact .tup (SqT.of ht) (.cons (.int _) (.cons (.int _) (.cons (.int _) (.cons (.tup hq (dp_ints _)) .nil))))
theorem sh_fds (m : Str) (pt : List Int) (F : List Mt) : Sh 3 (.list (F.map (fdD m pt))) := Sh.list fun d hd => by
  obtain ⟨it, _, rfl⟩ := List.mem_map.mp hd
  exact fdD_sh m pt it
theorem sh_mts (F : List Mt) : Sh 3 (.list (F.map mtD)) := Sh.list fun d hd => by
  obtain ⟨it, _, rfl⟩ := List.mem_map.mp hd
  exact mtD_sh it
/-- the key and the begin of an item -/
def KbV (K : PySem.W.Frag) (H : Hp) (v : V) (p : Int × Int) : Prop := ∃ t, v = .ref t ∧ SqT K H t [.int p.1, .int p.2]
theorem KbV.kp {K : PySem.W.Frag} {F : Addr → Prop} {H H' : Hp} {v : V} {p : Int × Int} (k : Kp F H H') (h : KbV K H v p) : KbV K H' v p := by
  obtain ⟨t, rfl, h⟩ := h
  exact ⟨t, rfl, k.sqT h⟩
theorem x_inK {K : PySem.W.Frag} {H : Hp} {Q : VK} {a t : Addr} {ws : List V} {ps : List (Int × Int)} {k : Int × Int} (ht : SqT K H t [.int k.1, .int k.2]) (ha : SqL K H a ws) (hw : Paired (KbV K H) ws ps) (q : Q (.bl (decide (k ∈ ps))) H) : rInD K (.ref t) (.ref a) H Q := by
  have da : ∀ {ws : List V} {ps : List (Int × Int)}, Paired (KbV K H) ws ps → DpAll K H ws (ps.map fun p => PyData.tuple ([p.1, p.2].map PyData.int)) := fun h => by
    induction h with
    | nil => exact .nil
    | cons r _ ih =>
      obtain ⟨t, rfl, h⟩ := r
      exact .cons (.tup h (dp_ints [_, _])) ih
  have shp : ∀ d ∈ ps.map (fun p => PyData.tuple ([p.1, p.2].map PyData.int)), Sh 1 d := fun d hd => by
    obtain ⟨p, _, rfl⟩ := List.mem_map.mp hd
    exact Sh.tuple (sh_ints _)
  refine ⟨PyData.tuple ([k.1, k.2].map PyData.int), _, .tup ht (dp_ints [k.1, k.2]), .lst ha (da hw), (Sh.tuple (sh_ints _)).shaped, (Sh.list shp).shaped, ?_⟩
  have e : ∀ ps : List (Int × Int), (ps.map fun p => PyData.tuple ([p.1, p.2].map PyData.int)).any (fun z => PyData.eqv z (PyData.tuple ([k.1, k.2].map PyData.int))) = decide (k ∈ ps) := fun ps => by
    induction ps with
    | nil => rfl
    | cons p ps ih =>
      rw [List.map_cons, List.any_cons, ih, eqv_dec (p := p = k) (Sh.tuple (sh_ints _)).2.2 (Sh.tuple (sh_ints _)).2.2 (by
        obtain ⟨p1, p2⟩ := p
        obtain ⟨k1, k2⟩ := k
        simp), Bool.eq_iff_iff, Bool.or_eq_true, decide_eq_true_eq, decide_eq_true_eq, decide_eq_true_eq, List.mem_cons]
      exact or_congr_left ⟨Eq.symm, Eq.symm⟩
  rw [e]
  exact q
def JA (K : PySem.W.Frag) (H : Hp) (al : Addr) (A : List Mt) (H' : Hp) : Prop := Kp (F1 al) H H' ∧ ∃ avs, H' al = some (.lst avs) ∧ Paired (KbV K H') avs (A.map kyM)
theorem acc09 {c : Cl} {K : PySem.W.Frag} {H : Hp} {mt pg q : Addr} {r : Int} {D : Nat} {met : Str} {O Od : Addr → Prop} {s : PgS} {es : List Mt} {p : CbP} {sh : Int} {al : Addr} (W : MW c H mt pg q r D met O Od s) (hf : H p.f = some (NdefX.FnO p.f p.F)) (hc : H p.F.c = some (LamX.CodeO p.F.c p.F.qual)) (hF : ∃ cl c', p.F = NdefX.NF.of s_cb nm_cb qn_cb cl c') (hw : p.ws = [some (.int sh), some (.ref al)]) (hal : H al = some (.lst [])) (nal : ¬ O al) (ok : ∀ it ∈ es, MtOk D it) (les : es.length ≤ 100000) :
    AccS c K H mt pg q r D met O Od s es p (fun it => accR sh it.x it.y) (JA K H al) (F1 al) := by
  obtain ⟨dx, ho⟩ := W.ka.o
  refine ⟨hF, ⟨Kp.refl _, [], hal, .nil⟩, fun A H1 ⟨k1, _⟩ => ⟨W.off k1 (fun b z => by rw [z]; exact nal) (ne_of ho hal (by intro z; cases z)), k1.get hf (ne_of hf hal fun z => by cases z), k1.get hc (ne_of hc hal fun z => by cases z)⟩, fun A G H1 H2 ⟨k1, avs, e1, p1⟩ k2 n => ⟨fun b o e z => k2.get (k1 b o e z) fun g => (by rw [n b g] at e; cases e), avs, k2.get e1 fun g => (by rw [n al g] at hal; cases hal), p1.mono fun _ _ z => z.kp k2⟩, fun A H1 b ⟨_, avs, e1, _⟩ z => ⟨.lst avs, by rw [show b = al from z]; exact e1⟩, fun A H1 it Q ⟨k1, avs, e1, p1⟩ hit hl q => ?_⟩
  have o := ok it hit
  have la := p1.length
  rw [List.length_map] at la
  refine ⟨it.x, it.y, sh, al, avs, rfl, hw, e1, by omega, o.x0, o.x1, o.y0, o.y1, fun H2 t e2 et ft k2 => q H2 ⟨?_, _, e2, ?_⟩ k2⟩
  · exact fun b o' e z => k2 b o' (k1 b o' e z) z
  · rw [List.map_append]
    exact pr_app (p1.mono fun _ _ z => z.kp k2) (.cons ⟨t, rfl, SqT.of et⟩ .nil)
section
variable {c : Cl} {K : PySem.W.Frag} {G0 : Addr → Prop} {H0 H H' : Hp} {st sc kt p q ml : Addr} {D : Nat} {met : Str} {O O' Od Od' : Addr → Prop} {s s' : PgS} {ms : List Mt}
theorem W09.off {F : Addr → Prop} (h : W09 c K G0 H0 H st sc kt p q ml D met O Od s ms) (k : Kp F H H') (n : ∀ b, F b → ¬ Gw O st ml b) (n2 : ¬ F kt) : W09 c K (Gw O st ml) H' H' st sc kt p q ml D met O Od s ms := by
  obtain ⟨mvs, hm, pm⟩ := h.mv
  exact ⟨h.dr.kp k fun z => n _ z (.inr (.inl rfl)), h.kw.off k (fun b z y => n b z (.inl y)) n2, ⟨mvs, k.get hm fun z => n _ z (.inr (.inr rfl)), pm.mono fun _ _ z => z.kp k⟩, h.so, h.mo, h.sm, .refl _ _⟩
theorem W09.fr (h : W09 c K G0 H0 H st sc kt p q ml D met O Od s ms) {b : Addr} (e : H b = none) : ¬ Gw O st ml b := by
  obtain ⟨mvs, hm, _⟩ := h.mv
  obtain ⟨_, hs⟩ := h.dr.trk
  rintro (z | z | z)
  · exact h.kw.pg.fresh e z
  · rw [z, hs] at e; cases e
  · rw [z, hm] at e; cases e
theorem W09.tree {kt' : Addr} (h : W09 c K G0 H0 H st sc kt p q ml D met O Od s ms) (k : Kp F0 H H') (a : MkA c H' kt' p 1 D met) (e : H kt' = none) : W09 c K G0 H0 H' st sc kt' p q ml D met O Od s ms := by
  have g := h.pure k
  exact ⟨g.dr, ⟨a, g.kw.pg, h.kw.pg.fresh e⟩, g.mv, g.so, g.mo, g.sm, g.tp⟩
end
theorem TbW.stp {H H' : Hp} {T : Addr} {nm : Nat → Nat → Str} {G G' : Addr → Prop} (h : TbW H T nm G) (t : Stp G G' H H') : TbW H' T nm G' :=
  ((h.own (G' := fun b => G b ∨ G' b) fun b z => z.elim .inl (t.gr b)).kp t.kp fun _ z => .inl z).own fun _ z => .inl (.inr z)
/-- the world behind the def of the rule -/
structure L09 (c : Cl) (K : PySem.W.Frag) (H : Hp) (st sc kt p q ml al f T : Addr) (F : NdefX.NF) (nm : Nat → Nat → Str) (D : Nat) (met : Str) (O Od : Addr → Prop) (s : PgS) (ms : List Mt) : Prop where
  w : W09 c K (Gw O st ml) H H st sc kt p q ml D met O Od s ms
  hl : H al = some (.lst [])
  na : ¬ Gw O st ml al
  hf : H f = some (NdefX.FnO f F)
  hc : H F.c = some (LamX.CodeO F.c F.qual)
  tb : TbW H T nm fun b => Gw O st ml b ∨ b = al
section
variable {c : Cl} {K : PySem.W.Frag} {H H' : Hp} {st sc kt p q ml al f T : Addr} {F : NdefX.NF} {nm : Nat → Nat → Str} {D : Nat} {met : Str} {O Od : Addr → Prop} {s : PgS} {ms : List Mt}
theorem L09.pure (h : L09 c K H st sc kt p q ml al f T F nm D met O Od s ms) (k : Kp F0 H H') : L09 c K H' st sc kt p q ml al f T F nm D met O Od s ms :=
  ⟨(h.w.pure k).base, k.get h.hl id, h.na, k.get h.hf id, k.get h.hc id, h.tb.kp k fun _ z => z.elim⟩
theorem L09.draw (h : L09 c K H st sc kt p q ml al f T F nm D met O Od s ms) (k : Kp (F1 st) H H') (d : Dr K H' st sc) : L09 c K H' st sc kt p q ml al f T F nm D met O Od s ms := by
  obtain ⟨i, v, ns, _, _, hst, _⟩ := id h.w.dr
  exact ⟨(h.w.draw k d).base, k.get h.hl fun z => h.na (.inr (.inl z)), h.na, k.get h.hf (ne_of h.hf hst fun z => by cases z), k.get h.hc (ne_of h.hc hst fun z => by cases z), h.tb.kp k fun _ z => .inl (.inr (.inl z))⟩
end
theorem X09.use {D t e : Nat} {met : Str} {s : PgS} {ms : List Mt} (X : X09 D met t e s ms) (ht : t ≤ 299) : ∃ h ps es, MT D met (gpg s) h 1 ps es ∧ ps.length ≤ 400000 ∧ ms.Perm es ∧ (es.map kyM).Nodup ∧ es.length ≤ e ∧ PWkM D (gpg s) [1] ps := by
  obtain ⟨i, m, f, h, ps, es, S, h1, h2, pm, lm, nd⟩ := X
  have l := S.F.len
  rw [List.length_append, List.length_append] at l
  have mb := S.F.mb
  have pw := MT.pwk h S.K .nil
  rw [List.append_nil] at pw
  exact ⟨h, ps, es, S.K, by omega, pm, (pm.map kyM).nodup_iff.mp nd, by rw [← pm.length_eq]; exact lm, pw⟩
section
end
/-! ### the first state; all pages strict -/
theorem FR.zeroM {s : PgS} (z : ∀ n, gpg s n = zeros) (d : s.dir = []) : FR 1 (cnth s) 1 [] [] := by
  have f6 : fld s 6 = 0 := by unfold fld; rw [z]; rfl
  have e : cnth s = setf 6 1 s := if_pos f6
  have hz : 4 * (6 + 1) ≤ (gpg s 0).length := by rw [z]; decide
  have v6 : vf (gpg (setf 6 1 s)) 6 = 1 := by rw [gpg_set, vset_vf (by decide) (by decide) hz, if_pos rfl]
  have v7 : vf (gpg (setf 6 1 s)) 7 = 0 := by
    rw [gpg_set, vset_vf (by decide) (by decide) hz, if_neg (by decide)]
    unfold vf; rw [z]; rfl
  rw [e]
  refine ⟨fun n => ?_, v6, v7, List.nodup_nil, fun n h => by simp at h, fun n a b => by omega, by decide, by decide, ?_⟩
  · rw [gpg_set]; unfold vset vput; split
    · rw [spl_len hz, z]; rfl
    · rw [z]; rfl
  · have := setf_len s 6 1
    rw [d] at this
    exact Nat.le_trans this (by decide)
theorem palloc_zeros {s : PgS} : gpg (palloc s).1 (palloc s).2 = zeros := by
  unfold palloc
  split <;> exact gpg_eq _ _ _
theorem X09.new {D : Nat} {met : Str} {s : PgS} (z : ∀ n, gpg s n = zeros) (d : s.dir = []) : (palloc (cnth s)).2 = 1 ∧ X09 D met 0 0 (palloc (cnth s)).1 [] := by
  have F := FR.zeroM z d
  obtain ⟨ea, A, _⟩ := F.alloc (by decide)
  have gz := palloc_zeros (s := cnth s)
  have e1 : (palloc (cnth s)).2 = 1 := ea
  rw [e1] at gz
  have K : MT D met (gpg (palloc (cnth s)).1) 0 1 [1] [] := ⟨3, [], [], rfl, .inr ⟨gz, rfl, rfl⟩, rfl, rfl, rfl⟩
  exact ⟨e1, 2, alM 1 [], [], 0, [1], [], ⟨A, K⟩, by decide, by decide, .refl _, by decide, List.nodup_nil⟩
theorem isM3 {d : Int} (h0 : 0 ≤ d) (h1 : d < 3) : ∃ met, isM met ∧ atI [V.str "sum", .str "greatest", .str "unlike"] d = some (.str met) := by
  have c3 : d = 0 ∨ d = 1 ∨ d = 2 := by omega
  rcases c3 with rfl | rfl | rfl
  · exact ⟨"sum", .inl rfl, rfl⟩
  · exact ⟨"greatest", .inr (.inl rfl), rfl⟩
  · exact ⟨"unlike", .inr (.inr rfl), rfl⟩
theorem x_mR {C : Addr} {m : Str} {cl : List (Str × Addr)} {js : List Nat} {sp : CbP → Sp} {ta : TE} {t : TA} {σ : L2.St} {H : Hp} {Q : VK} (h : ta σ H fun x H1 => rMethQ C m x H1 fun a => t σ H1 fun vs H2 => ∃ p : CbP, p.F.cl = cl ∧ p.ws = js.map (NdefX.slotAt σ) ∧ sp p (.ref a :: vs) H2 Q E0) : tMethR C m cl js sp ta t σ H Q := h
theorem L09.mk' {c : Cl} {K : PySem.W.Frag} {G0 : Addr → Prop} {H0 H H1 : Hp} {st sc kt p q ml al f T : Addr} {F : NdefX.NF} {nm : Nat → Nat → Str} {D : Nat} {met : Str} {O Od : Addr → Prop} {s : PgS} {ms : List Mt} (W : W09 c K G0 H0 H st sc kt p q ml D met O Od s ms) (tb : TbW H T nm fun b => Gw O st ml b ∨ b = al) (k : Kp (F1 T) H H1) (hal : H al = some (.lst [])) (na : ¬ Gw O st ml al) (hf : H1 f = some (NdefX.FnO f F)) (hc : H1 F.c = some (LamX.CodeO F.c F.qual)) (tb1 : TbW H1 T nm fun b => Gw O st ml b ∨ b = al) : L09 c K H1 st sc kt p q ml al f T F nm D met O Od s ms := by
  obtain ⟨ps, hT, _⟩ := tb.at_
  obtain ⟨dx, ho⟩ := W.kw.ka.o
  exact ⟨W.off k (fun b z y => tb.ng (by rw [← show b = T from z]; exact .inl y)) (ne_of ho hT fun z => by cases z), k.get hal fun z => tb.ng (.inr z.symm), na, hf, hc, tb1⟩
section
variable {P : Program} {w : World} {K : PySem.W.Frag} {mg : Str → Option Value} {base : Heap} {c : Cl}
theorem ok_law {f : Addr} {fd : FuncData} (F : FunC K "law" "law" s_law f fd c.nc) (T : Txt K mg c) (TB : LamX.TabB base mg c.nc c.nt) : FnOk P w K mg base CX0 179 f fd ["_law_script"] (sp_lawT K c.nt) := by
  have tc_Device := T.cl_Device; have tn_Device_pages := T.n_Device_pages; have tn_Device_page_writes := T.n_Device_page_writes; have tn_Device_durable_log := T.n_Device_durable_log; have tn_Device_log_steps := T.n_Device_log_steps; have tn_Device_done := T.n_Device_done; have tn_Device_most := T.n_Device_most
  have tc_Pager := T.cl_Pager; have tn_Pager_device := T.n_Pager_device; have tn_Pager_committed := T.n_Pager_committed; have tn_Pager_dirty := T.n_Pager_dirty
  have tc_MetricTree := T.cl_MetricTree; have tn_MetricTree_pager := T.n_MetricTree_pager; have tn_MetricTree_root := T.n_MetricTree_root; have tn_MetricTree_dimensions := T.n_MetricTree_dimensions; have tn_MetricTree_metric := T.n_MetricTree_metric
  refine okC F sc_law ?_ (fun A outer s H vs Q E hr h => ?_)
  · rintro vs H Q E ⟨_, _, rfl, _⟩
    rfl
  · obtain ⟨sc, ns, rfl, hsc, hlen, hT0, k⟩ := h
    refine ⟨_, (pss_cons (ps_set (i := 1) sc_law.nd rfl (Or.inl rfl) (pe_lst (pa_cons pe_int (pa_cons pe_int pa_nil))))
      (pss_cons (ps_set (i := 2) sc_law.nd rfl (Or.inl rfl) (pe_op op_add pe_int (pe_g (ok__law_draw T) (hr.mono (by decide)) pass0S (pa_cons (pv 1) (pa_cons (pv 0) (pa_cons pe_int pa_nil))))))
      (pss_cons (ps_set (i := 3) sc_law.nd rfl (Or.inl rfl) (pe_g (ok__law_spanned T) (hr.mono (by decide)) pass0S (pa_cons (pv 1) (pa_cons (pv 0) pa_nil))))
      (pss_cons (ps_set (i := 4) sc_law.nd rfl (Or.inl rfl) (pe_ix (r := rIxL K) ix_list (pe_lst (pa_cons pe_str (pa_cons pe_str (pa_cons pe_str pa_nil)))) (pe_g (ok__law_draw T) (hr.mono (by decide)) pass0S (pa_cons (pv 1) (pa_cons (pv 0) (pa_cons pe_int pa_nil)))) (fun _ _ => rfl)))
      (pss_cons (ps_set (i := 5) sc_law.nd rfl (Or.inl rfl) (pe_gc (mk_Pager T) (hr.mono (by decide)) passN (pa_cons (pe_gc0 (mk_Device T) (hr.mono (by decide)) pass0S) pa_nil)))
      (pss_cons (ps_set (i := 6) sc_law.nd rfl (Or.inl rfl) (pe_gm0 T.cl_Pager (ok_Pager_allocate T) (pv 5) (hr.mono (by decide)) pass0S))
      (pss_cons (ps_set (i := 7) sc_law.nd rfl (Or.inl rfl) (pe_gc (mk_MetricTree T) (hr.mono (by decide)) pass0S (pa_cons (pv 5) (pa_cons (pv 6) (pa_cons (pv 2) (pa_cons (pv 4) pa_nil))))))
      (pss_cons (ps_set (i := 8) sc_law.nd rfl (Or.inl rfl) (pe_g (ok__law_built T) (hr.mono (by decide)) pass0S (pa_cons (pv 1) (pa_cons (pv 0) (pa_cons (pv 7) (pa_cons (pv 2) (pa_cons (pv 3) pa_nil)))))))
      (pss_cons (ps_set (i := 9) sc_law.nd rfl (Or.inr rfl) (pe_lst pa_nil))
      (pss_cons (ps_for PassesOwn.never rfl (pi_range1 (by rfl) T.z_range (pa_cons pe_int pa_nil)) (pg_name (i := 10) sc_law.nd rfl (Or.inl rfl)) (pss_cons (ps_set (i := 11) sc_law.nd rfl (Or.inr rfl) (pe_g (ok__law_draw T) (hr.mono (by decide)) pass0S (pa_cons (pv 1) (pa_cons (pv 0) (pa_cons pe_int pa_nil)))))
      (pss_cons (ps_expr (pe_g (ok__law_turned T) (hr.mono (by decide)) pass0S (pa_cons (pv 1) (pa_cons (pv 0) (pa_cons (pv 7) (pa_cons (pv 8) (pa_cons (pv 10) (pa_cons (pv 2) (pa_cons (pv 3) pa_nil)))))))))
      (C8.pss_cut (ps_if (pt_cmpR op_eq (pe_g (ok__law_draw T) (hr.mono (by decide)) pass0S (pa_cons (pv 1) (pa_cons (pv 0) (pa_cons pe_int pa_nil)))) pe_int (nomark _)) (pss_one (ps_set (i := 7) sc_law.nd rfl (Or.inl rfl) (pe_gc (mk_MetricTree T) (hr.mono (by decide)) pass0S (pa_cons (pv 5) (pa_cons (pv 6) (pa_cons (pv 2) (pa_cons (pv 4) pa_nil))))))) pss_nil)
      (pss_cons (ps_set (i := 9) sc_law.nd rfl (Or.inr rfl) (pe_lst pa_nil))
      (pss_cons (ps_nd (i := 12) (nm := fun _ _ => qn_law__law_accepts) (st := s_law__law_accepts) rfl TB rfl rfl (NdefX.ndef_free nb_law__law_accepts) rfl rfl rfl sc_law.nd rfl (by first | exact Or.inl rfl | exact Or.inr rfl) (.inl rfl))
      (pss_cons (ps_set (i := 13) sc_law.nd rfl (Or.inl rfl) (pe_g (ok__law_point T) (hr.mono (by decide)) pass0S (pa_cons (pv 1) (pa_cons (pv 0) (pa_cons (pv 2) (pa_cons (pv 3) pa_nil))))))
      (C8.pss_cut (ps_if (PW.pt (pw_and (pt_cmpR op_gt (pe_callB (r := rLenQ K) c_len (by rfl) T.z_len PySem.boot_len (pa_cons (pv 8) pa_nil)) pe_int (nomark _)) (pw_and1 (pt_cmpR op_eq (pe_g (ok__law_draw T) (hr.mono (by decide)) pass0S (pa_cons (pv 1) (pa_cons (pv 0) (pa_cons pe_int pa_nil)))) pe_int (nomark _))))) (pss_one (ps_set (i := 13) sc_law.nd rfl (Or.inl rfl) (pe_ix (r := rIxT K) ix_tup (pe_ix (r := rIxL K) ix_list (pv 8) (pe_g (ok__law_draw T) (hr.mono (by decide)) pass0S (pa_cons (pv 1) (pa_cons (pv 0) (pa_cons (pe_callB (r := rLenQ K) c_len (by rfl) T.z_len PySem.boot_len (pa_cons (pv 8) pa_nil)) pa_nil)))) (fun _ _ => rfl)) pe_int (fun _ _ => rfl)))) pss_nil)
      (pss_cons (ps_set (i := 14) sc_law.nd rfl (Or.inl rfl) (pe_ix (r := rIxL K) ix_list (pe_lst (pa_cons pe_int (pa_cons (pe_op op_add pe_int (pe_g (ok__law_draw T) (hr.mono (by decide)) pass0S (pa_cons (pv 1) (pa_cons (pv 0) (pa_cons pe_int pa_nil))))) (pa_cons (pe_op op_add pe_int (pe_g (ok__law_draw T) (hr.mono (by decide)) pass0S (pa_cons (pv 1) (pa_cons (pv 0) (pa_cons (pe_op op_add (pe_callB (r := rLenQ K) c_len (by rfl) T.z_len PySem.boot_len (pa_cons (pv 8) pa_nil)) pe_int) pa_nil))))) pa_nil)))) (pe_g (ok__law_draw T) (hr.mono (by decide)) pass0S (pa_cons (pv 1) (pa_cons (pv 0) (pa_cons pe_int pa_nil)))) (fun _ _ => rfl)))
      (pss_cons (ps_set (i := 15) sc_law.nd rfl (Or.inl rfl) (pe_lst pa_nil))
      (pss_cons (ps_for PassesOwn.never rfl (pi_listK rfl (pv 8)) (pg_kT rfl (pg_tup (n := 3) rfl (pgs_cons (pg_name (i := 16) sc_law.nd rfl (Or.inl rfl)) (pgs_cons (pg_name (i := 17) sc_law.nd rfl (Or.inl rfl)) (pgs_cons (pg_name (i := 18) sc_law.nd rfl (Or.inl rfl)) pgs_nil))))) (pss_one (ps_if (pt_cmpR op_ge (pe_op op_mod (pe_callTy c_int (by rfl) T.z_int (by decide +kernel) (pa_cons (pe_op op_mul (pe_op op_add (pv 16) (pe_op op_mul pe_int (pv 17))) pe_int) pa_nil)) pe_int) (pv 11) (nomark _)) (pss_one (ps_expr (pe_kBM rfl (pe_bm PySem.F.plainAttrs_list PySem.F.slot_list_append PySem.F.type_list_append mt_append (pv 15) (pa_cons (pe_tup (pa_cons (pe_g (ok__law_far T) (hr.mono (by decide)) pass0S (pa_cons (pv 4) (pa_cons (pv 13) (pa_cons (pv 18) pa_nil)))) (pa_cons (pv 16) (pa_cons (pv 17) (pa_cons (pv 18) pa_nil))))) pa_nil))))) pss_nil)))
      (pss_cons (ps_set (i := 19) sc_law.nd rfl (Or.inl rfl) (pe_op op_cat (pe_gm0 T.cl_MetricTree (ok_MetricTree_pages T) (pv 7) (hr.mono (by decide)) pass0S) (pe_lst (pa_cons (pe_gm T.cl_Pager (ok_Pager_field T) (pv 5) (hr.mono (by decide)) pass0S (pa_cons pe_int pa_nil)) (pa_cons (pe_gm T.cl_Pager (ok_Pager_field T) (pv 5) (hr.mono (by decide)) pass0S (pa_cons pe_int pa_nil)) pa_nil)))))
      (pss_cons (ps_set (i := 20) sc_law.nd rfl (Or.inl rfl) (pe_gmR (js := [11, 9]) T.cl_MetricTree (ok_MetricTree_nearest T) (pv 7) (hr.mono (by decide)) (fun ok => NdefX.Caps.made ok (NdefX.ndef_free nb_law__law_accepts) (NdefX.ndef_fr nb_law__law_accepts) rfl) (fun _ => rfl) (pa_cons (pv 13) (pa_cons (pv 14) (pa_cons (pv 12) pa_nil)))))
      (pss_cons (ps_if (PW.pt (pw_or (pt_not (pt_val (pe_callB (r := rIsi K) call_isi (by rfl) T.z_isinstance (by decide +kernel) (pa_cons (pv 20) (pa_cons (pe_bltn (v := .ty "list") (by rfl) T.z_list (by decide +kernel) rfl) pa_nil))))) (pw_or1 (pt_cmpR (r := rNeD K) (op_neD hr.units) (pv 20) (pe_slice (r := rSlL K) sl_list (pe_callB (r := rSortN K) cr_sortedN (by rfl) T.z_sorted (by decide +kernel) (pa_cons (pv 15) pa_nil)) po_none (po_some (pv 14))) (nomark _))))) (pss_one (ps_ret pe_bl)) pss_nil)
      (pss_cons (ps_if (pt_cmpR (r := rNeD K) (op_neD hr.units) (pe_op op_cat (pe_gm0 T.cl_MetricTree (ok_MetricTree_pages T) (pv 7) (hr.mono (by decide)) pass0S) (pe_lst (pa_cons (pe_gm T.cl_Pager (ok_Pager_field T) (pv 5) (hr.mono (by decide)) pass0S (pa_cons pe_int pa_nil)) (pa_cons (pe_gm T.cl_Pager (ok_Pager_field T) (pv 5) (hr.mono (by decide)) pass0S (pa_cons pe_int pa_nil)) pa_nil)))) (pv 19) (nomark _)) (pss_one (ps_ret pe_bl)) pss_nil)
      (pss_cons (ps_set (i := 21) sc_law.nd rfl (Or.inr rfl) (pe_lc (own := [("_law_item", 22)]) (g := (gName 22)) (tt := tYes) rfl sc_law.nd (pi_listK rfl (pv 8)) (blkOk_by (N := ["_law_script", "_law_state", "_law_many", "_law_span", "_law_metric", "_law_pager", "_law_root", "_law_tree", "_law_model", "_law_asked", "_law_turn", "_law_share", "_law_accepts", "_law_point_here", "_law_count", "_law_due", "_law_key", "_law_begin", "_law_place", "_law_used", "_law_found", "_law_pairs", "_law_item", "_law_pair"]) (sc := defScope s_law) (by decide +kernel)) (fun _ _ _ _ _ => (pg_name (i := 22) sc_law.nd rfl (Or.inl rfl))) (fun _ _ _ _ _ => pts_nil) (fun _ _ _ _ _ => (pe_slice (r := rSlA K) sl_tupA (pv 22) po_none (po_some pe_int)))))
      (pss_one (ps_if (pt_not (pt_val (pe_callB (r := rAll K) (cr_all rfl) (by rfl) T.z_all (by decide +kernel) (pa_cons (pe_lc (own := [("_law_pair", 23)]) (g := (gName 23)) (tt := tYes) rfl sc_law.nd (pi_listK rfl (pv 9)) (blkOk_by (N := ["_law_script", "_law_state", "_law_many", "_law_span", "_law_metric", "_law_pager", "_law_root", "_law_tree", "_law_model", "_law_asked", "_law_turn", "_law_share", "_law_accepts", "_law_point_here", "_law_count", "_law_due", "_law_key", "_law_begin", "_law_place", "_law_used", "_law_found", "_law_pairs", "_law_item", "_law_pair"]) (sc := defScope s_law) (by decide +kernel)) (fun _ _ _ _ _ => (pg_name (i := 23) sc_law.nd rfl (Or.inl rfl))) (fun _ _ _ _ _ => pts_nil) (fun _ _ _ _ _ => (pe_cmpR (r := rInD K) (op_inD (rm65 hr)) (pv 23) (pv 21) rfl))) pa_nil)))) (pss_one (ps_ret pe_bl)) pss_nil))))))))))))))))))
      (pss_one (ps_ret (pe_cmpR (r := rEqD K) (op_eqD hr.units) (pe_gm0 T.cl_MetricTree (ok_MetricTree_all_items T) (pv 7) (hr.mono (by decide)) pass0S) (pe_callB (r := rSortN K) cr_sortedN (by rfl) T.z_sorted (by decide +kernel) (pa_cons (pv 8) pa_nil)) (nomark _)))))))))))))), ?_⟩
    walk_at "cx"
    walk_at "rd"
    refine x_newL fun st H1 hst k1 e1 => ?_
    have dr1 : Dr K H1 st sc := ⟨0, 0, ns, by decide, by decide, e1, hlen, hsc.kp k1⟩
    walk_at "rd"
    refine ⟨st, sc, 8, rfl, by decide, by decide, dr1, fun d1 H2 d10 d11 dr2 k2 => ?_⟩
    obtain ⟨D, eD⟩ : ∃ D : Nat, 1 + d1 = (D : Int) := ⟨(1 + d1).toNat, by omega⟩
    walk_at "rd"
    rw [eD]
    refine ⟨st, sc, rfl, dr2, fun sp H3' sp0 sp1 dr3' k3' => ?_⟩
    have hD : D ≤ 8 := by omega
    have hD1 : 1 ≤ D := by omega
    walk_at "rd"
    refine x_newL fun ml0 H3a hml0 k3a e3a => ?_
    walk_at "rd"
    refine ⟨st, sc, 3, rfl, by decide, by decide, dr3'.kp k3a id, fun dm H3 dm0 dm1 dr3 k3 => ?_⟩
    obtain ⟨_, hst3⟩ := dr3'.trk
    have e3b := k3.get e3a (ne_of_none hst3 hml0).symm
    obtain ⟨met, hmet, emet⟩ := isM3 dm0 dm1
    walk_at "rd"
    intro q dx hq hdx nd
    have km : Kp F0 H3 (upd (upd H3 dx (.own q)) q (.ins c.Device dx [])) := (Kp.new hdx).trans (Kp.new (by rw [upd_ne nd.symm]; exact hq)) fun _ z => z.elim
    refine ⟨q, dx, rfl, upd_same, fun H4 Od hD4 k4 o4 => ⟨rfl, ?_⟩⟩
    have nsq : st ≠ q := by
      obtain ⟨_, h⟩ := dr3.trk
      exact ne_of_none h hq
    have k34 : Kp F0 H3 H4 := km.trans k4 fun x z => .inr (by rw [z]; exact hq)
    have dr4 := dr3.kp k34 id
    have sod : ¬ Od st := fun z => by
      obtain ⟨_, h⟩ := dr3.trk
      rcases o4 st z with e | e
      · exact nsq e
      · rw [km.get h id] at e; cases e
    walk_at "rd"
    intro p dy hp hdy ndy
    have km3 : Kp F0 H4 (upd (upd H4 dy (.own p)) p (.ins c.Pager dy [])) := (Kp.new hdy).trans (Kp.new (by rw [upd_ne ndy.symm]; exact hp)) fun _ z => z.elim
    have i1 : pini1 [] ⟨[], [], [], [], 0, none⟩ = (pini0 [] ⟨[], [], [], [], 0, none⟩, true) := rfl
    have i2 : pinit [] ⟨[], [], [], [], 0, none⟩ = (cnth (pini0 [] ⟨[], [], [], [], 0, none⟩), true) := rfl
    have S0 : PSt 0 0 (pini0 [] ⟨[], [], [], [], 0, none⟩) [] := ⟨rfl, rfl, rfl, rfl, fun g z => (by cases z), fun n => rfl, fun q z => (by cases z), fun q z => (by cases z), fun q z => (by cases z), Nat.le_refl _, Nat.le_refl _, Nat.le_refl _, Nat.le_refl _⟩
    have Z0 : ∀ n, gpg (pini0 [] ⟨[], [], [], [], 0, none⟩) n = zeros := fun n => rfl
    have D0 : (pini0 [] ⟨[], [], [], [], 0, none⟩).dir = [] := rfl
    generalize pini0 [] ⟨[], [], [], [], 0, none⟩ = s0 at i1 i2 S0 Z0 D0
    have good0 : Good [] := ⟨Nat.zero_le _, fun q h => by cases h⟩
    refine ⟨p, dy, q, Od, _, [], [], 0, rfl, upd_same, hD4.same km3, hD4.fresh hp, rfl, by decide, fun g z => (by cases z), good0, by decide, (by first | exact (S0.pgz (by decide) (by decide)).ck | exact ⟨by decide, by decide, by decide, fun q z => (by cases z), fun q z => (by cases z), by decide, fun q z => (by cases z)⟩), fun _ => by rw [i1]; exact S0.z 0, fun H5 O Od5 P5 t5 => ?_⟩
    rw [i2] at P5 ⊢
    rw [if_pos rfl]
    refine ⟨rfl, ?_⟩
    have sop : st ≠ p := by
      obtain ⟨_, h⟩ := dr4.trk
      exact ne_of_none h hp
    have ks5 := dr4.kp km3 id
    have dr5 := ks5.kp t5.kp fun z => z.elim sop sod
    have so5 : ¬ O st := by
      obtain ⟨_, h⟩ := ks5.trk
      exact t5.kp0 h fun z => z.elim sop sod
    have FR0 := FR.zeroM Z0 D0
    have dl0 := FR0.dl
    obtain ⟨⟨dz, b1, b2, y1, y2, DP⟩, _⟩ := id P5
    have hop := DP.o
    walk_at "rd"
    refine ⟨p, q, O, Od5, cnth s0, rfl, P5, by omega, FR0.z 0, fun H6 O6 P6 t6 => ?_⟩
    obtain ⟨ea, XX⟩ := X09.new (D := D) (met := met) Z0 D0
    rw [ea]
    have dr6 := dr5.kp t6.kp so5
    have so6 : ¬ O6 st := by
      obtain ⟨_, h⟩ := dr5.trk
      exact t6.kp0 h so5
    generalize (palloc (cnth s0)).1 = s1 at P6 XX
    walk_at "rd"
    intro kt dk hkt hdk ndk
    have kmk : Kp F0 H6 (upd (upd H6 dk (.own kt)) kt (.ins c.MetricTree dk [])) := (Kp.new hdk).trans (Kp.new (by rw [upd_ne ndk.symm]; exact hkt)) fun _ z => z.elim
    refine ⟨kt, p, dk, 1, (D : Int), met, rfl, upd_same, fun H7 ka7 k7 => ⟨rfl, ?_⟩⟩
    have k67 : Kp F0 H6 H7 := kmk.trans k7 fun x z => .inr (by rw [z]; exact hkt)
    have nkt : ¬ O6 kt := P6.fresh hkt
    have P7 := P6.same k67
    have dr7 := dr6.kp k67 id
    have hT7 : H7 c.nt = some (.tbl #[]) := by
      have a1 := k1.get hT0 id
      have a2 := k2.get a1 (ne_of_none hT0 hst)
      have a3 := k3.get (k3a.get (k3'.get a2 (ne_of_none hT0 hst)) id) (ne_of_none hT0 hst)
      have a4 := k34.get a3 id
      have n1 : ¬ Od c.nt := fun z => by
        rcases o4 _ z with e | e
        · exact ne_of_none a3 hq e
        · rw [km.get a3 id] at e; cases e
      have n2 : ¬ (c.nt = p ∨ Od c.nt) := fun z => z.elim (ne_of_none a4 hp) n1
      have a4' := km3.get a4 id
      have a5 := t5.kp.get a4' n2
      have n5 := t5.kp0 a4' n2
      have a6 := t6.kp.get a5 n5
      exact k67.get a6 id
    have nT7 : ¬ (O6 c.nt ∨ c.nt = st) := fun z => z.elim (fun z => by
      have a1 := k1.get hT0 id
      have a2 := k2.get a1 (ne_of_none hT0 hst)
      have a3 := k3.get (k3a.get (k3'.get a2 (ne_of_none hT0 hst)) id) (ne_of_none hT0 hst)
      have a4 := k34.get a3 id
      have n1 : ¬ Od c.nt := fun z => by
        rcases o4 _ z with e | e
        · exact ne_of_none a3 hq e
        · rw [km.get a3 id] at e; cases e
      have n2 : ¬ (c.nt = p ∨ Od c.nt) := fun z => z.elim (ne_of_none a4 hp) n1
      have a4' := km3.get a4 id
      exact t6.kp0 (t5.kp.get a4' n2) (t5.kp0 a4' n2) z) (ne_of_none hT0 hst)
    have tb7 : TbW H7 c.nt (fun _ _ => qn_law__law_accepts) (fun b => O6 b ∨ b = st) := TbW.nil hT7 nT7
    walk_at "rd"
    refine ⟨st, sc, kt, p, q, D, sp, met, O6, Od5, s1, rfl, by omega, hD, sp0, sp1, dr7, ⟨ka7, P7, nkt⟩, so6, XX, fun H8 ml O8 Od8 s8 ms8 W8 X8 B8 => ?_⟩
    have tb8 := tb7.stp W8.tp
    have W8 := W8.base
    walk_at "rd"
    refine x_newL fun al0 H9 hal0 k9 e9 => ?_
    have W9 := (W8.pure k9).base
    have tb9 := tb8.kp k9 fun _ z => z.elim
    walk_at "rd"
    refine wfor Wk.rng (fun i σ H' => ∃ kt O Od s ms u9 u10 u11 u12 u13 u14 u15 u16 u17 u18 u19 u20 u21, σ = [some (.ref sc), some (.ref st), some (.int (D : Nat)), some (.int sp), some (.str met), some (.ref p), some (.int 1), some (.ref kt), some (.ref ml), u9, u10, u11, u12, u13, u14, u15, u16, u17, u18, u19, u20, u21, none, none] ∧ W09 c K (Gw O st ml) H' H' st sc kt p q ml D met O Od s ms ∧ X09 D met (240 + 2 * i) (160 + i) s ms ∧ (∀ x ∈ ms, Bg 160 x ∨ ∃ t : Nat, t < i ∧ x.y = 200 + (t : Int)) ∧ TbW H' c.nt (fun _ _ => qn_law__law_accepts) (Gw O st ml))
      ⟨kt, O8, Od8, s8, ms8, some (.ref al0), none, none, none, none, none, none, none, none, none, none, none, none, rfl, W9, X8, fun x hx => .inl (B8 x hx), tb9⟩ (fun _ _ _ _ => trivial) ?_ ?_
    · rintro i x σ HA ex ⟨kt, O, Od, s, ms, u9, u10, u11, u12, u13, u14, u15, u16, u17, u18, u19, u20, u21, rfl, WA, XA, BA, tbA⟩
      obtain ⟨hi, rfl⟩ := rgl_at ex
      have hi' : i < 3 := by simpa using hi
      walk_at "rd"
      refine ⟨st, sc, 5, rfl, by decide, by decide, WA.dr, fun sh HB sh0 sh1 drB kB => ?_⟩
      have WB := (WA.draw kB drB).base
      have tbB := tbA.kp kB fun _ z => .inr (.inl z)
      walk_at "rd"
      refine ⟨st, sc, kt, p, q, ml, D, 240 + 2 * i, 160 + i, i, sp, met, O, Od, s, ms, by rw [Int.zero_add], by omega, hD, sp0, sp1, WB, XA, by omega, by omega, by omega, fun x hx e => ?_, fun HC O2 Od2 s2 ms2 WC XC BC => ?_⟩
      · rcases BA x hx with ⟨j, hj, ej⟩ | ⟨t, ht, et⟩
        · omega
        · omega
      have tbC := tbB.stp WC.tp
      have WC := WC.base
      have BC2 : ∀ x ∈ ms2, Bg 160 x ∨ ∃ t : Nat, t < i + 1 ∧ x.y = 200 + (t : Int) := fun x hx => by
        rcases BC x hx with h | h
        · rcases BA x h with h | ⟨t, ht, et⟩
          · exact .inl h
          · exact .inr ⟨t, by omega, et⟩
        · exact .inr ⟨i, by omega, h⟩
      clear BA BC XA WA WB tbA tbB
      walk_at "rd"
      refine x_cut (fun σ' H' => ∃ kt, σ' = [some (.ref sc), some (.ref st), some (.int (D : Nat)), some (.int sp), some (.str met), some (.ref p), some (.int 1), some (.ref kt), some (.ref ml), u9, some (.int (0 + (i : Int))), some (.int sh), u12, u13, u14, u15, u16, u17, u18, u19, u20, u21, none, none] ∧ W09 c K (Gw O2 st ml) H' H' st sc kt p q ml D met O2 Od2 s2 ms2 ∧ TbW H' c.nt (fun _ _ => qn_law__law_accepts) (Gw O2 st ml)) ?_ ?_
      · walk_at "rd"
        refine ⟨st, sc, 3, rfl, by decide, by decide, WC.dr, fun d3 HD d30 d31 drD kD => ?_⟩
        have WD := (WC.draw kD drD).base
        have tbD := tbC.kp kD fun _ z => .inr (.inl z)
        walk_at "rd"
        refine ite_dec (fun e => ?_) fun e => ?_
        · walk_at "rd"
          intro kt2 dk2 hkt2 hdk2 ndk2
          have kmk2 : Kp F0 HD (upd (upd HD dk2 (.own kt2)) kt2 (.ins c.MetricTree dk2 [])) := (Kp.new hdk2).trans (Kp.new (by rw [upd_ne ndk2.symm]; exact hkt2)) fun _ z => z.elim
          refine ⟨kt2, p, dk2, 1, (D : Int), met, rfl, upd_same, fun HE kaE kE => ⟨rfl, ?_⟩⟩
          have kDE : Kp F0 HD HE := kmk2.trans kE fun x z => .inr (by rw [z]; exact hkt2)
          walk_at "rd"
          exact ⟨kt2, rfl, (WD.tree kDE kaE hkt2).base, tbD.kp kDE fun _ z => z.elim⟩
        · walk_at "rd"
          exact ⟨kt, rfl, WD, tbD⟩
      · clear WC tbC
        rintro σ' HD ⟨kt, rfl, WD, tbD⟩
        walk_at "rd"
        refine x_newL fun al HE hal kE eE => ?_
        have WE := (WD.pure kE).base
        have tbE : TbW HE c.nt (fun _ _ => qn_law__law_accepts) (fun b => Gw O2 st ml b ∨ b = al) := (tbD.own (G' := fun b => Gw O2 st ml b ∨ b = al) fun b z => z.elim .inl fun z => .inr (by rw [z]; exact hal)).kp kE fun _ z => z.elim
        have naE : ¬ Gw O2 st ml al := WD.fr hal
        walk_at "rd"
        refine ⟨_, tbE, fun b e z => z.elim (WE.fr e) fun z => (by rw [z, eE] at e; cases e), fun f c' HF kF hf ef ec ngc nct tbF => ?_⟩
        have L0 := L09.mk' WE tbE kF eE naE ef ec tbF
        obtain ⟨okm, lms, knd⟩ := XC.ok
        generalize hFF : NdefX.NF.of s_law__law_accepts "_law_accepts" _ _ c' = FF at L0
        walk_at "rd"
        refine ⟨st, sc, (D : Int), sp, rfl, by omega, by omega, sp0, by omega, L0.w.dr, fun p1 HG pt lpt bpt ep1 drG kG => ?_⟩
        have L1 := L0.draw kG drG
        walk_at "rd"
        refine x_cut (fun σ' H' => ∃ (pa : Addr) (pt : List Int), σ' = [some (.ref sc), some (.ref st), some (.int (D : Nat)), some (.int sp), some (.str met), some (.ref p), some (.int 1), some (.ref kt), some (.ref ml), some (.ref al), some (.int (0 + (i : Int))), some (.int sh), some (.ref f), some (.ref pa), u14, u15, u16, u17, u18, u19, u20, u21, none, none] ∧ L09 c K H' st sc kt p q ml al f c.nt FF (fun _ _ => qn_law__law_accepts) D met O2 Od2 s2 ms2 ∧ SqT K H' pa (pt.map V.int) ∧ pt.length = D) ?_ ?_
        · obtain ⟨mvsG, hmlG, pmG⟩ := L1.w.mv
          have lmG := pmG.length
          walk_at "rd"
          rw [lmG]
          refine if_both ?_ fun hb rest => ?_
          · walk_at "rd"
            exact ⟨p1, pt, rfl, L1, SqT.of ep1, by omega⟩
          · have hpos : 0 < ms2.length := by have := of_decide_eq_true hb; omega
            walk_at "rd"
            refine ⟨st, sc, 2, rfl, by decide, by decide, L1.w.dr, fun d2 H2' d20 d21 dr2' k2' => ?_⟩
            have L2 := L1.draw k2' dr2'
            have ep2 := k2'.tup ep1
            obtain ⟨mvs4, hml4, pm4⟩ := L2.w.mv
            have lm4 := pm4.length
            walk_at "rd"
            refine ite_dec (fun e => ?_) fun e => ?_
            · walk_at "rd"
              rw [lm4]
              refine ⟨st, sc, (ms2.length : Int), rfl, by omega, by omega, L2.w.dr, fun j H5' j0 j1 dr5' k5' => ?_⟩
              have L3 := L2.draw k5' dr5'
              obtain ⟨mvs5, hml5, pm5⟩ := L3.w.mv
              obtain ⟨jn, rfl⟩ := Int.eq_ofNat_of_zero_le j0
              obtain ⟨y, ey⟩ : ∃ y, ms2[jn]? = some y := ⟨_, List.getElem?_eq_getElem (by omega)⟩
              obtain ⟨v5, ev5, t5', q5, rfl, ht5, hq5⟩ := pgetr pm5 ey
              have ht5' : SqT K H5' t5' [.int y.x, .int y.y, .ref q5] := ht5
              have oky := okm y (List.mem_of_getElem? ey)
              walk_at "rd"
              refine x_ixL (v := .ref t5') (SqL.of hml5) (atI_at jn rfl ev5) ?_
              walk_at "rd"
              exact ⟨q5, y.p, rfl, L3, hq5, oky.l⟩
            · walk_at "rd"
              exact ⟨p1, pt, rfl, L2, SqT.of ep2, by omega⟩
        · clear L1 L0 tbF tbE WE WD tbD
          rintro σ' HG' ⟨pa, pt, rfl, L1, hpa, lpt⟩
          obtain ⟨mvs1, hml1, pm1⟩ := L1.w.mv
          have lm1 := pm1.length
          walk_at "rd"
          refine ⟨st, sc, 12, rfl, by decide, by decide, L1.w.dr, fun dA HH dA0 dA1 drH kH => ?_⟩
          have L2 := L1.draw kH drH
          obtain ⟨mvs2, hml2, pm2⟩ := L2.w.mv
          have lm2 := pm2.length
          walk_at "rd"
          rw [lm2]
          refine ⟨st, sc, (ms2.length : Int) + 5, rfl, by omega, by omega, L2.w.dr, fun dB HI dB0 dB1 drI kI => ?_⟩
          have L3 := L2.draw kI drI
          walk_at "rd"
          refine x_newL fun l3 HJ hl3 kJ eJ => ?_
          have L4 := L3.pure kJ
          walk_at "rd"
          refine ⟨st, sc, 3, rfl, by decide, by decide, L4.w.dr, fun dC HK dC0 dC1 drK kK => ?_⟩
          have L5 := L4.draw kK drK
          have nl3 : l3 ≠ st := by
            obtain ⟨_, hs⟩ := L3.w.dr.trk
            exact (ne_of_none hs hl3).symm
          have eK := kK.get eJ nl3
          have cnt : ∃ cn : Nat, atI [V.int 1, .int (1 + dA), .int (1 + dB)] dC = some (.int (cn : Nat)) ∧ 1 ≤ cn ∧ cn ≤ 1000 := by
            have c3 : dC = 0 ∨ dC = 1 ∨ dC = 2 := by omega
            rcases c3 with rfl | rfl | rfl
            · exact ⟨1, rfl, by decide, by decide⟩
            · exact ⟨(1 + dA).toNat, by rw [Int.toNat_of_nonneg (by omega)]; rfl, by omega, by omega⟩
            · exact ⟨(1 + dB).toNat, by rw [Int.toNat_of_nonneg (by omega)]; rfl, by omega, by omega⟩
          obtain ⟨cn, ecn, cn1, cn2⟩ := cnt
          have hpaK := kK.sqT (kJ.sqT (kI.sqT (kH.sqT hpa)))
          clear L1 L2 L3 L4 hpa
          walk_at "rd"
          obtain ⟨mvsK, hmlK, pmK⟩ := L5.w.mv
          have hlK := L5.hl
          have lmK := pmK.length
          refine x_newL fun du HL hdu kL eL => ?_
          have nmd : ml ≠ du := ne_of_none hmlK hdu
          have hmlL := kL.get hmlK id
          have pmL : Paired (MtV K HL 3) mvsK ms2 := pmK.mono fun _ _ z => z.kp kL
          walk_at "rd"
          refine wfor (Wk.list (xs := mvsK)) (fun j σ H' => ∃ dvs u16 u17 u18, σ = [some (.ref sc), some (.ref st), some (.int (D : Nat)), some (.int sp), some (.str met), some (.ref p), some (.int 1), some (.ref kt), some (.ref ml), some (.ref al), some (.int (0 + (i : Int))), some (.int sh), some (.ref f), some (.ref pa), some (.int (cn : Nat)), some (.ref du), u16, u17, u18, u19, u20, u21, none, none] ∧ Kp F0 HK H' ∧ Kp (F1 du) HL H' ∧ H' du = some (.lst dvs) ∧ Paired (FdV K met pt H') dvs ((ms2.take j).filter fun it => accR sh it.x it.y))
            ⟨[], u16, u17, u18, rfl, kL, Kp.refl _, eL, by rw [List.take_zero]; exact .nil⟩ (fun j σ H' ⟨_, _, _, _, _, _, kk, _⟩ => SqL.of (kk.get hmlL nmd)) ?_ ?_
          · rintro j x σ HM ex ⟨dvs, v16, v17, v18, rfl, kM, kkM, eM, pM⟩
            obtain ⟨it, ei, hit⟩ := pgt pmL ex
            obtain ⟨t, qi, rfl, ht, hq⟩ := hit.kp kkM
            have ht' : SqT K HM t [.int it.x, .int it.y, .ref qi] := ht
            have hpaM := kM.sqT hpaK
            have ok := okm it (List.mem_of_getElem? ei)
            have x0 := ok.x0; have x1 := ok.x1; have y0 := ok.y0; have y1 := ok.y1; have li := ok.l
            have tk1 : ms2.take (j + 1) = ms2.take j ++ [it] := by rw [List.take_succ, ei]; rfl
            have ldv := pM.length
            have lf := List.length_filter_le (fun it : Mt => accR sh it.x it.y) (ms2.take j)
            rw [List.length_take] at lf
            walk_at "rd"
            refine ite_dec (fun e => ?_) fun e => ?_
            · walk_at "rd"
              refine ⟨met, pa, qi, pt, it.p, rfl, hmet, hpaM, hq, by omega, by omega, by omega, ?_⟩
              walk_at "rd"
              refine x_newT fun tn HN htn kN eN => ?_
              have eN' := kN.get eM id
              walk_at "rd"
              refine x_app eN' (by omega) fun HO eO kO => ?_
              have ha : accR sh it.x it.y = true := decide_eq_true e
              have kMO : Kp (F1 du) HM HO := (kN.mono fun _ z => z.elim).trans kO fun _ z => .inl z
              refine ⟨_, _, _, _, rfl, fun b o h _ => kMO.get (kM.get h id) (ne_of_none h hdu), kkM.trans kMO fun _ z => .inl z, eO, ?_⟩
              rw [tk1, List.filter_append, show List.filter (fun it : Mt => accR sh it.x it.y) [it] = [it] by simp [ha]]
              exact pr_app (pM.mono fun _ _ z => z.kp kMO) (.cons ⟨tn, qi, rfl, kO.get eN (ne_of_none eM htn).symm, kMO.sqT hq⟩ .nil)
            · walk_at "rd"
              refine ⟨_, _, _, _, rfl, kM, kkM, eM, ?_⟩
              have hn : accR sh it.x it.y = false := decide_eq_false e
              rw [tk1, List.filter_append, show List.filter (fun it : Mt => accR sh it.x it.y) [it] = [] by simp [hn], List.append_nil]
              exact pM
          · rintro σ HM ⟨dvs, v16, v17, v18, rfl, kM, kkM, eM, pM⟩
            rw [lmK, List.take_length] at pM
            have L6 := L5.pure kM
            have hpaM := kM.sqT hpaK
            clear L5 hpaK kkM hmlL pmL hmlK pmK
            obtain ⟨hh, ps, es, MK, lps, pme, nde, les, pwk⟩ := XC.use (by omega)
            obtain ⟨dx1, ho⟩ := L6.w.kw.ka.o
            walk_at "rd"
            refine ⟨kt, p, q, 1, D, met, ps, O2, Od2, s2, rfl, L6.w.kw.ka, L6.w.kw.pg, pwk, lps, hD, fun b1 HN hb1 kN eN => ?_⟩
            have L7 := L6.pure kN
            obtain ⟨⟨dz7, c1, c2, z1, z2, DP7⟩, _⟩ := id L7.w.kw.pg
            have hop7 := DP7.o
            walk_at "rd"
            refine ⟨p, q, O2, Od2, s2, 6, rfl, by decide, L7.w.kw.pg, fun HO kO => ?_⟩
            have L8 := L7.pure kO
            have hop8 := kO.get hop7 id
            walk_at "rd"
            refine ⟨p, q, O2, Od2, s2, 7, rfl, by decide, L8.w.kw.pg, fun HP kP => ?_⟩
            have L9' := L8.pure kP
            walk_at "rd"
            refine x_newL fun l6 HR hl6 kR eR => ?_
            have LR := L9'.pure kR
            have eN4 := kR.get (kP.get (kO.get eN id) id) id
            walk_at "rd"
            refine x_catL eN4 eR (by rw [List.length_map, sizeLine_eq]; simp; omega) fun us HS hus kS eS => ?_
            have LS := LR.pure kS
            have hlR := LR.hl
            have kMS : Kp F0 HM HS := (((kN.trans kO fun _ z => z.elim).trans kP fun _ z => z.elim).trans kR fun _ z => z.elim).trans kS fun _ z => z.elim
            have hpaS := kMS.sqT hpaM
            have eduS := kMS.get eM id
            have pMS : Paired (FdV K met pt HS) dvs (ms2.filter fun it => accR sh it.x it.y) := pM.mono fun _ _ z => z.kp kMS
            clear L6 L7 L8 L9' LR hpaM eN4 eN eR pM
            obtain ⟨dxS, hoS⟩ := LS.w.kw.ka.o
            walk_at "rd"
            have nua : us ≠ al := (ne_of_none hlR hus).symm
            have nda : du ≠ al := (ne_of_none hlK hdu).symm
            have hFcl := congrArg NdefX.NF.cl hFF
            refine x_mR ?_
            walk_at "rd"
            refine ⟨⟨f, FF, [some (.int sh), some (.ref al)]⟩, hFcl.symm, rfl, kt, pa, p, q, 1, D, cn, hh, met, pt, ps, es, O2, Od2, s2, fun it => accR sh it.x it.y, JA K HS al, F1 al, rfl, hpaS, lpt, by omega, hD, cn1, by omega, MK, lps, nde, by omega, acc09 LS.w.kw LS.hf LS.hc ⟨_, _, hFF.symm⟩ rfl LS.hl (fun z => LS.na (.inl z)) (fun it hit => okm it (pme.mem_iff.mpr hit)) (by omega), fun HT fl fvs Fo A jA hA kT hfl efl pfl bst => ?_⟩
            have WT := LS.w.off kT (fun b z => by rw [show b = al from z]; exact LS.na) (ne_of hoS LS.hl fun z => by cases z)
            have tbT := LS.tb.kp kT fun _ z => .inr z
            have usT := kT.get eS nua
            have duT := kT.get eduS nda
            have pMT : Paired (FdV K met pt HT) dvs (ms2.filter fun it => accR sh it.x it.y) := pMS.mono fun _ _ z => z.kp kT
            obtain ⟨_, avs, eav, pav⟩ := jA
            clear LS hpaS eS eduS pMS hoS
            walk_at "rd"
            refine x_isiR (T := "list") (.base (.lst efl)) (b := true) (kit_ty (by decide +kernel)) ?_
            walk_at "rd"
            refine x_srtN (R := FdV K met pt) (fkey met pt) (n := 2) (SqL.of duT) pMT (fun v x r => r.ky) (fkey_nd (knd.sublist (List.filter_sublist.map kyM))) (fun H' v x k r => r.kp k) fun ys sl HU zs pz sz hsl kU eU pzs => ?_
            walk_at "rd"
            refine x_slL (SqL.of eU) fun sl2 HV hsl2 kV eV => ?_
            rw [cut_toA] at eV
            have kTV : Kp F0 HT HV := kU.trans kV fun _ z => z.elim
            have eF : Fo = zs.take cn := bst.take (pz.trans (pme.filter _)) sz (fkey_nd (nde.sublist (List.filter_sublist.map kyM)))
            subst eF
            refine x_neSame (.lst (SqL.of (kTV.get efl id)) (dp_all (fun _ _ h => FdV.dp h) (pfl.mono fun _ _ z => z.kp kTV))) (.lst (SqL.of eV) (dp_all (fun _ _ h => FdV.dp h) (pr_tk cn (pzs.mono fun _ _ z => z.kp kV)))) (sh_fds met pt _) (by decide) ?_
            have WV := (WT.pure kTV).base
            have tbV := tbT.kp kTV fun _ z => z.elim
            have usV := kTV.get usT id
            have eavV := kTV.get eav id
            have pavV := pav.mono fun _ _ z => KbV.kp kTV z
            clear WT tbT usT duT pMT efl pfl eav pav eU pzs eV
            obtain ⟨dxV, hoV⟩ := WV.kw.ka.o
            walk_at "rd"
            refine ⟨kt, p, q, 1, D, met, ps, O2, Od2, s2, rfl, WV.kw.ka, WV.kw.pg, pwk, lps, hD, fun b1 HN hb1 kN eN => ?_⟩
            have W7 := (WV.pure kN).base
            obtain ⟨⟨dz8, c3, c4, z3, z4, DP8⟩, _⟩ := id W7.kw.pg
            have hop9 := DP8.o
            walk_at "rd"
            refine ⟨p, q, O2, Od2, s2, 6, rfl, by decide, W7.kw.pg, fun HO kO => ?_⟩
            have hop10 := kO.get hop9 id
            walk_at "rd"
            refine ⟨p, q, O2, Od2, s2, 7, rfl, by decide, W7.kw.pg.same kO, fun HP kP => ?_⟩
            walk_at "rd"
            refine x_newL fun l6 HR hl6 kR eR => ?_
            have eN4 := kR.get (kP.get (kO.get eN id) id) id
            walk_at "rd"
            refine x_catL eN4 eR (by rw [List.length_map, sizeLine_eq]; simp; omega) fun us2 HX hus2 kX eX => ?_
            have kVX : Kp F0 HV HX := (((kN.trans kO fun _ z => z.elim).trans kP fun _ z => z.elim).trans kR fun _ z => z.elim).trans kX fun _ z => z.elim
            have usX := kVX.get usV id
            have sX : SqL K HX us2 ((ps ++ [fld s2 6, fld s2 7]).map V.int) := by rw [List.map_append]; exact SqL.of eX
            have sU : SqL K HX us ((ps ++ [fld s2 6, fld s2 7]).map V.int) := by rw [List.map_append]; exact SqL.of usX
            walk_at "rd"
            refine x_neLI sX sU ?_
            rw [decide_eq_true rfl]
            have WX := (WV.pure kVX).base
            have tbX := tbV.kp kVX fun _ z => z.elim
            have eavX := kVX.get eavV id
            have pavX := pavV.mono fun _ _ z => KbV.kp kVX z
            obtain ⟨mvsX, hmlX, pmX⟩ := WX.mv
            have lmX := pmX.length
            clear usV usX eX WV tbV eavV pavV
            walk_at "rd"
            refine wlcH (Wk.list (xs := mvsX)) F0 (fun D' j acc H' => Paired (KbV K H') acc ((ms2.take j).map kyM)) (fun b z => z.elim) (by omega) (fun D' j acc H' _ s => SqL.of (s.get hmlX id)) (fun _ _ => .nil) (fun D' j acc H' H4 k h => h.mono fun _ _ z => z.kp k) (fun D' j x acc H' R R0 ex hD' hacc pv kp hR hR0 => ?_) (fun z HY acc hz hzY pv kY => ?_)
            · obtain ⟨y, ey, hy⟩ := pgt pmX ex
              obtain ⟨t9, q9, rfl, ht9, hq9⟩ := hy.kp kp
              have ht9' : SqT K H' t9 [.int y.x, .int y.y, .ref q9] := ht9
              walk_at "rd"
              refine ⟨rfl, ?_⟩
              walk_at "rd"
              refine x_slT ht9' fun t5 H5 k5 e5 => ?_
              refine hR _ H5 k5 ?_
              rw [List.take_succ, ey, List.map_append]
              exact pr_app (pv.mono fun _ _ z => z.kp k5) (.cons ⟨t5, rfl, e5⟩ .nil)
            · rw [lmX, List.take_length] at pv
              have eavY := kY.get eavX id
              have pavY := pavX.mono fun _ _ z => KbV.kp kY z
              have lav := pavY.length
              have lA := hA.1
              rw [List.length_map] at lav
              walk_at "rd"
              refine wlcP (ys := (List.replicate A.length true).map V.bl) (Wk.list (xs := avs)) (by rw [List.length_map, List.length_replicate]; omega) (by omega) (fun H' k' => SqL.of (k'.get eavY id)) (fun j x y H' R ex ey kp hR => ?_) (fun z2 HZ hz2 kZ eZ => ?_)
              · obtain ⟨kk, ek, hk⟩ := pgt pavY ex
                obtain ⟨t9, rfl, ht9⟩ := hk.kp kp
                have yT : y = .bl true := by
                  rw [List.getElem?_map] at ey
                  obtain ⟨bb, eb, rfl⟩ := Option.map_eq_some_iff.mp ey
                  rw [List.eq_of_mem_replicate (List.mem_of_getElem? eb)]
                have inK : kk ∈ ms2.map kyM := by
                  obtain ⟨u, hu, rfl⟩ := List.mem_map.mp (List.mem_of_getElem? ek)
                  exact List.mem_map.mpr ⟨u, pme.mem_iff.mpr (hA.2 u hu), rfl⟩
                walk_at "rd"
                refine ⟨rfl, ?_⟩
                walk_at "rd"
                refine x_inK (k := kk) ht9 (SqL.of (kp.get hzY id)) (pv.mono fun _ _ z => KbV.kp kp z) ?_
                rw [decide_eq_true inK, yT.symm]
                exact hR H' (Kp.refl _)
              · walk_at "rd"
                refine x_all (SqL.of eZ) ?_
                rw [show (List.replicate A.length true).all id = true by simp]
                walk_at "rd"
                have kXZ : Kp F0 HX HZ := kY.trans kZ fun _ z => z.elim
                exact ⟨kt, O2, Od2, s2, ms2, _, _, _, _, _, _, _, _, _, _, _, _, _, rfl, (WX.pure kXZ).base, XC.le (by omega) (by omega), BC2, (tbX.kp kXZ fun _ z => z.elim).own fun _ z => .inl (.inl z)⟩
    · rintro σ HA ⟨kt, O, Od, s, ms, u9, u10, u11, u12, u13, u14, u15, u16, u17, u18, u19, u20, u21, rfl, WA, XA, BA, tbA⟩
      rw [rgl_len] at XA
      obtain ⟨hh, ps, es, MK, lps, pme, nde, les, pwk⟩ := XA.use (by simp)
      obtain ⟨okA, lmA, knA⟩ := XA.ok
      obtain ⟨dx1, ho⟩ := WA.kw.ka.o
      walk_at "rd"
      refine ⟨kt, p, q, 1, D, hh, met, ps, es, O, Od, s, rfl, WA.kw.ka, WA.kw.pg, MK, lps, by simp at les; omega, nde, hD, fun b HB zs ws pz sz hb kB eB pB => ?_⟩
      have WB := (WA.pure kB).base
      obtain ⟨mvsB, hmlB, pmB⟩ := WB.mv
      walk_at "rd"
      refine x_srtN (R := fun H v x => MtV K H 3 v x) mkey (n := 1) (SqL.of hmlB) pmB (fun v x r => r.ky) (mkey_nd knA) (fun H' v x k r => r.kp k) fun ys sl HC zs2 pz2 sz2 hsl kC eC pzs2 => ?_
      have eZ : zs = zs2 := sr_uniq (pz.trans (pme.symm.trans pz2.symm)) sz sz2 ((pz.map mkey).nodup_iff.mpr (mkey_nd nde))
      subst eZ
      refine x_eqSame (.lst (SqL.of (kC.get eB id)) (dp_all (fun _ _ h => MtV.dp h) (pB.mono fun _ _ z => z.kp kC))) (.lst (SqL.of eC) (dp_all (fun _ _ h => MtV.dp h) pzs2)) (sh_mts _) (by decide) ?_
      walk_at "rd"
      exact k _
end
theorem all_mk {l : PySem.W.OpenLaw} {w : World} {K0 : PySem.W.Frag} {h : Heap} {mg : Str → Option Value} {fa : Addr} (X0 : K0.In h) (G : h.Ns mainGlobals mg) (hfa : mg "law" = some (.ref fa))
    {C_Pager : Addr}
    {C_MetricTree : Addr}
    {C_Device : Addr}
    {C_PowerCut : Addr}
    {C_VaultError : Addr}
    {f1 : Addr} {od1 an1 : Option Addr} {sl1 : Array (Option Value)} {oc1 kV1 dc1 pm1 cd1 ct1 : Value}
    {f2 : Addr} {od2 an2 : Option Addr} {sl2 : Array (Option Value)} {oc2 kV2 dc2 pm2 cd2 ct2 : Value}
    {f3 : Addr} {od3 an3 : Option Addr} {sl3 : Array (Option Value)} {oc3 kV3 dc3 pm3 cd3 ct3 : Value}
    {f4 : Addr} {od4 an4 : Option Addr} {sl4 : Array (Option Value)} {oc4 kV4 dc4 pm4 cd4 ct4 : Value}
    {f5 : Addr} {od5 an5 : Option Addr} {sl5 : Array (Option Value)} {oc5 kV5 dc5 pm5 cd5 ct5 : Value}
    {f6 : Addr} {od6 an6 : Option Addr} {sl6 : Array (Option Value)} {oc6 kV6 dc6 pm6 cd6 ct6 : Value}
    {f7 : Addr} {od7 an7 : Option Addr} {sl7 : Array (Option Value)} {oc7 kV7 dc7 pm7 cd7 ct7 : Value}
    {f8 : Addr} {od8 an8 : Option Addr} {sl8 : Array (Option Value)} {oc8 kV8 dc8 pm8 cd8 ct8 : Value}
    {f9 : Addr} {od9 an9 : Option Addr} {sl9 : Array (Option Value)} {oc9 kV9 dc9 pm9 cd9 ct9 : Value}
    {f10 : Addr} {od10 an10 : Option Addr} {sl10 : Array (Option Value)} {oc10 kV10 dc10 pm10 cd10 ct10 : Value}
    {f11 : Addr} {od11 an11 : Option Addr} {sl11 : Array (Option Value)} {oc11 kV11 dc11 pm11 cd11 ct11 : Value}
    {f12 : Addr} {od12 an12 : Option Addr} {sl12 : Array (Option Value)} {oc12 kV12 dc12 pm12 cd12 ct12 : Value}
    {f13 : Addr} {od13 an13 : Option Addr} {sl13 : Array (Option Value)} {oc13 kV13 dc13 pm13 cd13 ct13 : Value}
    {f14 : Addr} {od14 an14 : Option Addr} {sl14 : Array (Option Value)} {oc14 kV14 dc14 pm14 cd14 ct14 : Value}
    {f15 : Addr} {od15 an15 : Option Addr} {sl15 : Array (Option Value)} {oc15 kV15 dc15 pm15 cd15 ct15 : Value}
    {f16 : Addr} {od16 an16 : Option Addr} {sl16 : Array (Option Value)} {oc16 kV16 dc16 pm16 cd16 ct16 : Value}
    {f17 : Addr} {od17 an17 : Option Addr} {sl17 : Array (Option Value)} {oc17 kV17 dc17 pm17 cd17 ct17 : Value}
    {f18 : Addr} {od18 an18 : Option Addr} {sl18 : Array (Option Value)} {oc18 kV18 dc18 pm18 cd18 ct18 : Value}
    {f19 : Addr} {od19 an19 : Option Addr} {sl19 : Array (Option Value)} {oc19 kV19 dc19 pm19 cd19 ct19 : Value}
    {f20 : Addr} {od20 an20 : Option Addr} {sl20 : Array (Option Value)} {oc20 kV20 dc20 pm20 cd20 ct20 : Value}
    {f21 : Addr} {od21 an21 : Option Addr} {sl21 : Array (Option Value)} {oc21 kV21 dc21 pm21 cd21 ct21 : Value}
    {f22 : Addr} {od22 an22 : Option Addr} {sl22 : Array (Option Value)} {oc22 kV22 dc22 pm22 cd22 ct22 : Value}
    {f23 : Addr} {od23 an23 : Option Addr} {sl23 : Array (Option Value)} {oc23 kV23 dc23 pm23 cd23 ct23 : Value}
    {f24 : Addr} {od24 an24 : Option Addr} {sl24 : Array (Option Value)} {oc24 kV24 dc24 pm24 cd24 ct24 : Value}
    {f25 : Addr} {od25 an25 : Option Addr} {sl25 : Array (Option Value)} {oc25 kV25 dc25 pm25 cd25 ct25 : Value}
    {f26 : Addr} {od26 an26 : Option Addr} {sl26 : Array (Option Value)} {oc26 kV26 dc26 pm26 cd26 ct26 : Value}
    {f27 : Addr} {od27 an27 : Option Addr} {sl27 : Array (Option Value)} {oc27 kV27 dc27 pm27 cd27 ct27 : Value}
    {f28 : Addr} {od28 an28 : Option Addr} {sl28 : Array (Option Value)} {oc28 kV28 dc28 pm28 cd28 ct28 : Value}
    {f29 : Addr} {od29 an29 : Option Addr} {sl29 : Array (Option Value)} {oc29 kV29 dc29 pm29 cd29 ct29 : Value}
    {f30 : Addr} {od30 an30 : Option Addr} {sl30 : Array (Option Value)} {oc30 kV30 dc30 pm30 cd30 ct30 : Value}
    {f31 : Addr} {od31 an31 : Option Addr} {sl31 : Array (Option Value)} {oc31 kV31 dc31 pm31 cd31 ct31 : Value}
    {f32 : Addr} {od32 an32 : Option Addr} {sl32 : Array (Option Value)} {oc32 kV32 dc32 pm32 cd32 ct32 : Value}
    {f33 : Addr} {od33 an33 : Option Addr} {sl33 : Array (Option Value)} {oc33 kV33 dc33 pm33 cd33 ct33 : Value}
    {f34 : Addr} {od34 an34 : Option Addr} {sl34 : Array (Option Value)} {oc34 kV34 dc34 pm34 cd34 ct34 : Value}
    {f35 : Addr} {od35 an35 : Option Addr} {sl35 : Array (Option Value)} {oc35 kV35 dc35 pm35 cd35 ct35 : Value}
    {f36 : Addr} {od36 an36 : Option Addr} {sl36 : Array (Option Value)} {oc36 kV36 dc36 pm36 cd36 ct36 : Value}
    {f37 : Addr} {od37 an37 : Option Addr} {sl37 : Array (Option Value)} {oc37 kV37 dc37 pm37 cd37 ct37 : Value}
    {f38 : Addr} {od38 an38 : Option Addr} {sl38 : Array (Option Value)} {oc38 kV38 dc38 pm38 cd38 ct38 : Value}
    {f39 : Addr} {od39 an39 : Option Addr} {sl39 : Array (Option Value)} {oc39 kV39 dc39 pm39 cd39 ct39 : Value}
    {f40 : Addr} {od40 an40 : Option Addr} {sl40 : Array (Option Value)} {oc40 kV40 dc40 pm40 cd40 ct40 : Value}
    {f41 : Addr} {od41 an41 : Option Addr} {sl41 : Array (Option Value)} {oc41 kV41 dc41 pm41 cd41 ct41 : Value}
    {f42 : Addr} {od42 an42 : Option Addr} {sl42 : Array (Option Value)} {oc42 kV42 dc42 pm42 cd42 ct42 : Value}
    {f43 : Addr} {od43 an43 : Option Addr} {sl43 : Array (Option Value)} {oc43 kV43 dc43 pm43 cd43 ct43 : Value}
    {f44 : Addr} {od44 an44 : Option Addr} {sl44 : Array (Option Value)} {oc44 kV44 dc44 pm44 cd44 ct44 : Value}
    {f45 : Addr} {od45 an45 : Option Addr} {sl45 : Array (Option Value)} {oc45 kV45 dc45 pm45 cd45 ct45 : Value}
    {f46 : Addr} {od46 an46 : Option Addr} {sl46 : Array (Option Value)} {oc46 kV46 dc46 pm46 cd46 ct46 : Value}
    {f47 : Addr} {od47 an47 : Option Addr} {sl47 : Array (Option Value)} {oc47 kV47 dc47 pm47 cd47 ct47 : Value}
    {f48 : Addr} {od48 an48 : Option Addr} {sl48 : Array (Option Value)} {oc48 kV48 dc48 pm48 cd48 ct48 : Value}
    {f49 : Addr} {od49 an49 : Option Addr} {sl49 : Array (Option Value)} {oc49 kV49 dc49 pm49 cd49 ct49 : Value}
    {f50 : Addr} {od50 an50 : Option Addr} {sl50 : Array (Option Value)} {oc50 kV50 dc50 pm50 cd50 ct50 : Value}
    {f51 : Addr} {od51 an51 : Option Addr} {sl51 : Array (Option Value)} {oc51 kV51 dc51 pm51 cd51 ct51 : Value}
    {f52 : Addr} {od52 an52 : Option Addr} {sl52 : Array (Option Value)} {oc52 kV52 dc52 pm52 cd52 ct52 : Value}
    {f53 : Addr} {od53 an53 : Option Addr} {sl53 : Array (Option Value)} {oc53 kV53 dc53 pm53 cd53 ct53 : Value}
    {f54 : Addr} {od54 an54 : Option Addr} {sl54 : Array (Option Value)} {oc54 kV54 dc54 pm54 cd54 ct54 : Value}
    {cc : Addr} {occ : Value} {odc : Option Addr} {vsc : Array Value} {slc : Array (Option Value)}
    {f55 : Addr} {od55 an55 : Option Addr} {sl55 : Array (Option Value)} {oc55 kV55 dc55 pm55 ct55 : Value}
    {t_PAGE_SIZE : Tok}
    {t_OFFSET : Tok}
    {t_LEAF : Tok}
    {t_INNER : Tok}
    {t_MOST_ITEMS : Tok}
    {t_NUMBER_SIZE : Tok}
    {t_FIELD_SIZE : Tok}
    {t_PAGES : Tok}
    {t_FREE : Tok}
    (he : h.get? 445 = some { cls := .none, data := .fields #[] })
    (aC_VaultError_0 : PySem.W.nsIn K0 mainGlobals "VaultError" = some (some (.ref C_VaultError)))
    (aC_PowerCut_0 : PySem.W.nsIn K0 mainGlobals "PowerCut" = some (some (.ref C_PowerCut)))
    (aC_Device_0 : PySem.W.nsIn K0 mainGlobals "Device" = some (some (.ref C_Device)))
    (aC_MetricTree_0 : PySem.W.nsIn K0 mainGlobals "MetricTree" = some (some (.ref C_MetricTree)))
    (aC_Pager_0 : PySem.W.nsIn K0 mainGlobals "Pager" = some (some (.ref C_Pager)))
    (a1_0 : PySem.W.nsIn K0 mainGlobals "_wall" = some (some (.ref f1)))
    (l1_0 : K0.lookup f1 = some ⟨oc1, od1, .func (PySem.W.fnOf "_wall" "_wall" (defArgs s__wall) (defBody s__wall) (defScope s__wall) .none kV1 dc1 pm1 an1 cd1 ct1), sl1⟩)
    (c1_0 : PySem.W.codeIn K0 cd1 "_wall" = true)
    (k1_0 : PySem.W.keepIn K0 (.ref f1) = true)
    (a2_0 : PySem.W.findIn K0 (.ref C_Device) "__init__" = some (some (.ref f2)))
    (i2_0 : PySem.W.isFn K0 (.ref f2) = true)
    (l2_0 : K0.lookup f2 = some ⟨oc2, od2, .func (PySem.W.fnOf "__init__" "Device.__init__" (defArgs s_Device___init__) (defBody s_Device___init__) (defScope s_Device___init__) .none kV2 dc2 pm2 an2 cd2 ct2), sl2⟩)
    (c2_0 : PySem.W.codeIn K0 cd2 "Device.__init__" = true)
    (k2_0 : PySem.W.keepIn K0 (.ref f2) = true)
    (a3_0 : PySem.W.findIn K0 (.ref C_Device) "step" = some (some (.ref f3)))
    (i3_0 : PySem.W.isFn K0 (.ref f3) = true)
    (l3_0 : K0.lookup f3 = some ⟨oc3, od3, .func (PySem.W.fnOf "step" "Device.step" (defArgs s_Device_step) (defBody s_Device_step) (defScope s_Device_step) .none kV3 dc3 pm3 an3 cd3 ct3), sl3⟩)
    (c3_0 : PySem.W.codeIn K0 cd3 "Device.step" = true)
    (k3_0 : PySem.W.keepIn K0 (.ref f3) = true)
    (a4_0 : PySem.W.findIn K0 (.ref C_Device) "write_page" = some (some (.ref f4)))
    (i4_0 : PySem.W.isFn K0 (.ref f4) = true)
    (l4_0 : K0.lookup f4 = some ⟨oc4, od4, .func (PySem.W.fnOf "write_page" "Device.write_page" (defArgs s_Device_write_page) (defBody s_Device_write_page) (defScope s_Device_write_page) .none kV4 dc4 pm4 an4 cd4 ct4), sl4⟩)
    (c4_0 : PySem.W.codeIn K0 cd4 "Device.write_page" = true)
    (k4_0 : PySem.W.keepIn K0 (.ref f4) = true)
    (a5_0 : PySem.W.findIn K0 (.ref C_Device) "sync_pages" = some (some (.ref f5)))
    (i5_0 : PySem.W.isFn K0 (.ref f5) = true)
    (l5_0 : K0.lookup f5 = some ⟨oc5, od5, .func (PySem.W.fnOf "sync_pages" "Device.sync_pages" (defArgs s_Device_sync_pages) (defBody s_Device_sync_pages) (defScope s_Device_sync_pages) .none kV5 dc5 pm5 an5 cd5 ct5), sl5⟩)
    (c5_0 : PySem.W.codeIn K0 cd5 "Device.sync_pages" = true)
    (k5_0 : PySem.W.keepIn K0 (.ref f5) = true)
    (a6_0 : PySem.W.findIn K0 (.ref C_Device) "append" = some (some (.ref f6)))
    (i6_0 : PySem.W.isFn K0 (.ref f6) = true)
    (l6_0 : K0.lookup f6 = some ⟨oc6, od6, .func (PySem.W.fnOf "append" "Device.append" (defArgs s_Device_append) (defBody s_Device_append) (defScope s_Device_append) .none kV6 dc6 pm6 an6 cd6 ct6), sl6⟩)
    (c6_0 : PySem.W.codeIn K0 cd6 "Device.append" = true)
    (k6_0 : PySem.W.keepIn K0 (.ref f6) = true)
    (a7_0 : PySem.W.findIn K0 (.ref C_Device) "clear" = some (some (.ref f7)))
    (i7_0 : PySem.W.isFn K0 (.ref f7) = true)
    (l7_0 : K0.lookup f7 = some ⟨oc7, od7, .func (PySem.W.fnOf "clear" "Device.clear" (defArgs s_Device_clear) (defBody s_Device_clear) (defScope s_Device_clear) .none kV7 dc7 pm7 an7 cd7 ct7), sl7⟩)
    (c7_0 : PySem.W.codeIn K0 cd7 "Device.clear" = true)
    (k7_0 : PySem.W.keepIn K0 (.ref f7) = true)
    (a8_0 : PySem.W.findIn K0 (.ref C_Device) "sync_log" = some (some (.ref f8)))
    (i8_0 : PySem.W.isFn K0 (.ref f8) = true)
    (l8_0 : K0.lookup f8 = some ⟨oc8, od8, .func (PySem.W.fnOf "sync_log" "Device.sync_log" (defArgs s_Device_sync_log) (defBody s_Device_sync_log) (defScope s_Device_sync_log) .none kV8 dc8 pm8 an8 cd8 ct8), sl8⟩)
    (c8_0 : PySem.W.codeIn K0 cd8 "Device.sync_log" = true)
    (k8_0 : PySem.W.keepIn K0 (.ref f8) = true)
    (a9_0 : PySem.W.findIn K0 (.ref C_Device) "durable_page" = some (some (.ref f9)))
    (i9_0 : PySem.W.isFn K0 (.ref f9) = true)
    (l9_0 : K0.lookup f9 = some ⟨oc9, od9, .func (PySem.W.fnOf "durable_page" "Device.durable_page" (defArgs s_Device_durable_page) (defBody s_Device_durable_page) (defScope s_Device_durable_page) .none kV9 dc9 pm9 an9 cd9 ct9), sl9⟩)
    (c9_0 : PySem.W.codeIn K0 cd9 "Device.durable_page" = true)
    (k9_0 : PySem.W.keepIn K0 (.ref f9) = true)
    (a10_0 : PySem.W.findIn K0 (.ref C_Device) "page" = some (some (.ref f10)))
    (i10_0 : PySem.W.isFn K0 (.ref f10) = true)
    (l10_0 : K0.lookup f10 = some ⟨oc10, od10, .func (PySem.W.fnOf "page" "Device.page" (defArgs s_Device_page) (defBody s_Device_page) (defScope s_Device_page) .none kV10 dc10 pm10 an10 cd10 ct10), sl10⟩)
    (c10_0 : PySem.W.codeIn K0 cd10 "Device.page" = true)
    (k10_0 : PySem.W.keepIn K0 (.ref f10) = true)
    (a11_0 : PySem.W.findIn K0 (.ref C_Device) "log" = some (some (.ref f11)))
    (i11_0 : PySem.W.isFn K0 (.ref f11) = true)
    (l11_0 : K0.lookup f11 = some ⟨oc11, od11, .func (PySem.W.fnOf "log" "Device.log" (defArgs s_Device_log) (defBody s_Device_log) (defScope s_Device_log) .none kV11 dc11 pm11 an11 cd11 ct11), sl11⟩)
    (c11_0 : PySem.W.codeIn K0 cd11 "Device.log" = true)
    (k11_0 : PySem.W.keepIn K0 (.ref f11) = true)
    (a12_0 : PySem.W.findIn K0 (.ref C_Device) "limit" = some (some (.ref f12)))
    (i12_0 : PySem.W.isFn K0 (.ref f12) = true)
    (l12_0 : K0.lookup f12 = some ⟨oc12, od12, .func (PySem.W.fnOf "limit" "Device.limit" (defArgs s_Device_limit) (defBody s_Device_limit) (defScope s_Device_limit) .none kV12 dc12 pm12 an12 cd12 ct12), sl12⟩)
    (c12_0 : PySem.W.codeIn K0 cd12 "Device.limit" = true)
    (k12_0 : PySem.W.keepIn K0 (.ref f12) = true)
    (a13_0 : PySem.W.findIn K0 (.ref C_Device) "crash" = some (some (.ref f13)))
    (i13_0 : PySem.W.isFn K0 (.ref f13) = true)
    (l13_0 : K0.lookup f13 = some ⟨oc13, od13, .func (PySem.W.fnOf "crash" "Device.crash" (defArgs s_Device_crash) (defBody s_Device_crash) (defScope s_Device_crash) .none kV13 dc13 pm13 an13 cd13 ct13), sl13⟩)
    (c13_0 : PySem.W.codeIn K0 cd13 "Device.crash" = true)
    (k13_0 : PySem.W.keepIn K0 (.ref f13) = true)
    (a14_0 : PySem.W.findIn K0 (.ref C_Device) "steps" = some (some (.ref f14)))
    (i14_0 : PySem.W.isFn K0 (.ref f14) = true)
    (l14_0 : K0.lookup f14 = some ⟨oc14, od14, .func (PySem.W.fnOf "steps" "Device.steps" (defArgs s_Device_steps) (defBody s_Device_steps) (defScope s_Device_steps) .none kV14 dc14 pm14 an14 cd14 ct14), sl14⟩)
    (c14_0 : PySem.W.codeIn K0 cd14 "Device.steps" = true)
    (k14_0 : PySem.W.keepIn K0 (.ref f14) = true)
    (a15_0 : PySem.W.findIn K0 (.ref C_Device) "pending" = some (some (.ref f15)))
    (i15_0 : PySem.W.isFn K0 (.ref f15) = true)
    (l15_0 : K0.lookup f15 = some ⟨oc15, od15, .func (PySem.W.fnOf "pending" "Device.pending" (defArgs s_Device_pending) (defBody s_Device_pending) (defScope s_Device_pending) .none kV15 dc15 pm15 an15 cd15 ct15), sl15⟩)
    (c15_0 : PySem.W.codeIn K0 cd15 "Device.pending" = true)
    (k15_0 : PySem.W.keepIn K0 (.ref f15) = true)
    (a16_0 : PySem.W.nsIn K0 mainGlobals "distance" = some (some (.ref f16)))
    (l16_0 : K0.lookup f16 = some ⟨oc16, od16, .func (PySem.W.fnOf "distance" "distance" (defArgs s_distance) (defBody s_distance) (defScope s_distance) .none kV16 dc16 pm16 an16 cd16 ct16), sl16⟩)
    (c16_0 : PySem.W.codeIn K0 cd16 "distance" = true)
    (k16_0 : PySem.W.keepIn K0 (.ref f16) = true)
    (a17_0 : PySem.W.nsIn K0 mainGlobals "write_number" = some (some (.ref f17)))
    (l17_0 : K0.lookup f17 = some ⟨oc17, od17, .func (PySem.W.fnOf "write_number" "write_number" (defArgs s_write_number) (defBody s_write_number) (defScope s_write_number) .none kV17 dc17 pm17 an17 cd17 ct17), sl17⟩)
    (c17_0 : PySem.W.codeIn K0 cd17 "write_number" = true)
    (k17_0 : PySem.W.keepIn K0 (.ref f17) = true)
    (a18_0 : PySem.W.nsIn K0 mainGlobals "read_number" = some (some (.ref f18)))
    (l18_0 : K0.lookup f18 = some ⟨oc18, od18, .func (PySem.W.fnOf "read_number" "read_number" (defArgs s_read_number) (defBody s_read_number) (defScope s_read_number) .none kV18 dc18 pm18 an18 cd18 ct18), sl18⟩)
    (c18_0 : PySem.W.codeIn K0 cd18 "read_number" = true)
    (k18_0 : PySem.W.keepIn K0 (.ref f18) = true)
    (a19_0 : PySem.W.nsIn K0 mainGlobals "write_point" = some (some (.ref f19)))
    (l19_0 : K0.lookup f19 = some ⟨oc19, od19, .func (PySem.W.fnOf "write_point" "write_point" (defArgs s_write_point) (defBody s_write_point) (defScope s_write_point) .none kV19 dc19 pm19 an19 cd19 ct19), sl19⟩)
    (c19_0 : PySem.W.codeIn K0 cd19 "write_point" = true)
    (k19_0 : PySem.W.keepIn K0 (.ref f19) = true)
    (a20_0 : PySem.W.nsIn K0 mainGlobals "read_point" = some (some (.ref f20)))
    (l20_0 : K0.lookup f20 = some ⟨oc20, od20, .func (PySem.W.fnOf "read_point" "read_point" (defArgs s_read_point) (defBody s_read_point) (defScope s_read_point) .none kV20 dc20 pm20 an20 cd20 ct20), sl20⟩)
    (c20_0 : PySem.W.codeIn K0 cd20 "read_point" = true)
    (k20_0 : PySem.W.keepIn K0 (.ref f20) = true)
    (a21_0 : PySem.W.nsIn K0 mainGlobals "filled" = some (some (.ref f21)))
    (l21_0 : K0.lookup f21 = some ⟨oc21, od21, .func (PySem.W.fnOf "filled" "filled" (defArgs s_filled) (defBody s_filled) (defScope s_filled) .none kV21 dc21 pm21 an21 cd21 ct21), sl21⟩)
    (c21_0 : PySem.W.codeIn K0 cd21 "filled" = true)
    (k21_0 : PySem.W.keepIn K0 (.ref f21) = true)
    (a22_0 : PySem.W.nsIn K0 mainGlobals "pair_of_pivots" = some (some (.ref f22)))
    (l22_0 : K0.lookup f22 = some ⟨oc22, od22, .func (PySem.W.fnOf "pair_of_pivots" "pair_of_pivots" (defArgs s_pair_of_pivots) (defBody s_pair_of_pivots) (defScope s_pair_of_pivots) .none kV22 dc22 pm22 an22 cd22 ct22), sl22⟩)
    (c22_0 : PySem.W.codeIn K0 cd22 "pair_of_pivots" = true)
    (k22_0 : PySem.W.keepIn K0 (.ref f22) = true)
    (a23_0 : PySem.W.findIn K0 (.ref C_MetricTree) "__init__" = some (some (.ref f23)))
    (i23_0 : PySem.W.isFn K0 (.ref f23) = true)
    (l23_0 : K0.lookup f23 = some ⟨oc23, od23, .func (PySem.W.fnOf "__init__" "MetricTree.__init__" (defArgs s_MetricTree___init__) (defBody s_MetricTree___init__) (defScope s_MetricTree___init__) .none kV23 dc23 pm23 an23 cd23 ct23), sl23⟩)
    (c23_0 : PySem.W.codeIn K0 cd23 "MetricTree.__init__" = true)
    (k23_0 : PySem.W.keepIn K0 (.ref f23) = true)
    (a24_0 : PySem.W.findIn K0 (.ref C_MetricTree) "load" = some (some (.ref f24)))
    (i24_0 : PySem.W.isFn K0 (.ref f24) = true)
    (l24_0 : K0.lookup f24 = some ⟨oc24, od24, .func (PySem.W.fnOf "load" "MetricTree.load" (defArgs s_MetricTree_load) (defBody s_MetricTree_load) (defScope s_MetricTree_load) .none kV24 dc24 pm24 an24 cd24 ct24), sl24⟩)
    (c24_0 : PySem.W.codeIn K0 cd24 "MetricTree.load" = true)
    (k24_0 : PySem.W.keepIn K0 (.ref f24) = true)
    (a25_0 : PySem.W.findIn K0 (.ref C_MetricTree) "store" = some (some (.ref f25)))
    (i25_0 : PySem.W.isFn K0 (.ref f25) = true)
    (l25_0 : K0.lookup f25 = some ⟨oc25, od25, .func (PySem.W.fnOf "store" "MetricTree.store" (defArgs s_MetricTree_store) (defBody s_MetricTree_store) (defScope s_MetricTree_store) .none kV25 dc25 pm25 an25 cd25 ct25), sl25⟩)
    (c25_0 : PySem.W.codeIn K0 cd25 "MetricTree.store" = true)
    (k25_0 : PySem.W.keepIn K0 (.ref f25) = true)
    (a26_0 : PySem.W.findIn K0 (.ref C_MetricTree) "point_of" = some (some (.ref f26)))
    (i26_0 : PySem.W.isFn K0 (.ref f26) = true)
    (l26_0 : K0.lookup f26 = some ⟨oc26, od26, .func (PySem.W.fnOf "point_of" "MetricTree.point_of" (defArgs s_MetricTree_point_of) (defBody s_MetricTree_point_of) (defScope s_MetricTree_point_of) .none kV26 dc26 pm26 an26 cd26 ct26), sl26⟩)
    (c26_0 : PySem.W.codeIn K0 cd26 "MetricTree.point_of" = true)
    (k26_0 : PySem.W.keepIn K0 (.ref f26) = true)
    (a27_0 : PySem.W.findIn K0 (.ref C_MetricTree) "radius_of" = some (some (.ref f27)))
    (i27_0 : PySem.W.isFn K0 (.ref f27) = true)
    (l27_0 : K0.lookup f27 = some ⟨oc27, od27, .func (PySem.W.fnOf "radius_of" "MetricTree.radius_of" (defArgs s_MetricTree_radius_of) (defBody s_MetricTree_radius_of) (defScope s_MetricTree_radius_of) .none kV27 dc27 pm27 an27 cd27 ct27), sl27⟩)
    (c27_0 : PySem.W.codeIn K0 cd27 "MetricTree.radius_of" = true)
    (k27_0 : PySem.W.keepIn K0 (.ref f27) = true)
    (a28_0 : PySem.W.findIn K0 (.ref C_MetricTree) "halves" = some (some (.ref f28)))
    (i28_0 : PySem.W.isFn K0 (.ref f28) = true)
    (l28_0 : K0.lookup f28 = some ⟨oc28, od28, .func (PySem.W.fnOf "halves" "MetricTree.halves" (defArgs s_MetricTree_halves) (defBody s_MetricTree_halves) (defScope s_MetricTree_halves) .none kV28 dc28 pm28 an28 cd28 ct28), sl28⟩)
    (c28_0 : PySem.W.codeIn K0 cd28 "MetricTree.halves" = true)
    (k28_0 : PySem.W.keepIn K0 (.ref f28) = true)
    (a29_0 : PySem.W.findIn K0 (.ref C_MetricTree) "save" = some (some (.ref f29)))
    (i29_0 : PySem.W.isFn K0 (.ref f29) = true)
    (l29_0 : K0.lookup f29 = some ⟨oc29, od29, .func (PySem.W.fnOf "save" "MetricTree.save" (defArgs s_MetricTree_save) (defBody s_MetricTree_save) (defScope s_MetricTree_save) .none kV29 dc29 pm29 an29 cd29 ct29), sl29⟩)
    (c29_0 : PySem.W.codeIn K0 cd29 "MetricTree.save" = true)
    (k29_0 : PySem.W.keepIn K0 (.ref f29) = true)
    (a30_0 : PySem.W.findIn K0 (.ref C_MetricTree) "insert" = some (some (.ref f30)))
    (i30_0 : PySem.W.isFn K0 (.ref f30) = true)
    (l30_0 : K0.lookup f30 = some ⟨oc30, od30, .func (PySem.W.fnOf "insert" "MetricTree.insert" (defArgs s_MetricTree_insert) (defBody s_MetricTree_insert) (defScope s_MetricTree_insert) .none kV30 dc30 pm30 an30 cd30 ct30), sl30⟩)
    (c30_0 : PySem.W.codeIn K0 cd30 "MetricTree.insert" = true)
    (k30_0 : PySem.W.keepIn K0 (.ref f30) = true)
    (a31_0 : PySem.W.findIn K0 (.ref C_MetricTree) "path_to" = some (some (.ref f31)))
    (i31_0 : PySem.W.isFn K0 (.ref f31) = true)
    (l31_0 : K0.lookup f31 = some ⟨oc31, od31, .func (PySem.W.fnOf "path_to" "MetricTree.path_to" (defArgs s_MetricTree_path_to) (defBody s_MetricTree_path_to) (defScope s_MetricTree_path_to) .none kV31 dc31 pm31 an31 cd31 ct31), sl31⟩)
    (c31_0 : PySem.W.codeIn K0 cd31 "MetricTree.path_to" = true)
    (k31_0 : PySem.W.keepIn K0 (.ref f31) = true)
    (a32_0 : PySem.W.findIn K0 (.ref C_MetricTree) "delete" = some (some (.ref f32)))
    (i32_0 : PySem.W.isFn K0 (.ref f32) = true)
    (l32_0 : K0.lookup f32 = some ⟨oc32, od32, .func (PySem.W.fnOf "delete" "MetricTree.delete" (defArgs s_MetricTree_delete) (defBody s_MetricTree_delete) (defScope s_MetricTree_delete) .none kV32 dc32 pm32 an32 cd32 ct32), sl32⟩)
    (c32_0 : PySem.W.codeIn K0 cd32 "MetricTree.delete" = true)
    (k32_0 : PySem.W.keepIn K0 (.ref f32) = true)
    (a33_0 : PySem.W.findIn K0 (.ref C_MetricTree) "lower" = some (some (.ref f33)))
    (i33_0 : PySem.W.isFn K0 (.ref f33) = true)
    (l33_0 : K0.lookup f33 = some ⟨oc33, od33, .func (PySem.W.fnOf "lower" "MetricTree.lower" (defArgs s_MetricTree_lower) (defBody s_MetricTree_lower) (defScope s_MetricTree_lower) .none kV33 dc33 pm33 an33 cd33 ct33), sl33⟩)
    (c33_0 : PySem.W.codeIn K0 cd33 "MetricTree.lower" = true)
    (k33_0 : PySem.W.keepIn K0 (.ref f33) = true)
    (a34_0 : PySem.W.findIn K0 (.ref C_MetricTree) "nearest" = some (some (.ref f34)))
    (i34_0 : PySem.W.isFn K0 (.ref f34) = true)
    (l34_0 : K0.lookup f34 = some ⟨oc34, od34, .func (PySem.W.fnOf "nearest" "MetricTree.nearest" (defArgs s_MetricTree_nearest) (defBody s_MetricTree_nearest) (defScope s_MetricTree_nearest) .none kV34 dc34 pm34 an34 cd34 ct34), sl34⟩)
    (c34_0 : PySem.W.codeIn K0 cd34 "MetricTree.nearest" = true)
    (k34_0 : PySem.W.keepIn K0 (.ref f34) = true)
    (a35_0 : PySem.W.findIn K0 (.ref C_MetricTree) "all_items" = some (some (.ref f35)))
    (i35_0 : PySem.W.isFn K0 (.ref f35) = true)
    (l35_0 : K0.lookup f35 = some ⟨oc35, od35, .func (PySem.W.fnOf "all_items" "MetricTree.all_items" (defArgs s_MetricTree_all_items) (defBody s_MetricTree_all_items) (defScope s_MetricTree_all_items) .none kV35 dc35 pm35 an35 cd35 ct35), sl35⟩)
    (c35_0 : PySem.W.codeIn K0 cd35 "MetricTree.all_items" = true)
    (k35_0 : PySem.W.keepIn K0 (.ref f35) = true)
    (a36_0 : PySem.W.findIn K0 (.ref C_MetricTree) "pages" = some (some (.ref f36)))
    (i36_0 : PySem.W.isFn K0 (.ref f36) = true)
    (l36_0 : K0.lookup f36 = some ⟨oc36, od36, .func (PySem.W.fnOf "pages" "MetricTree.pages" (defArgs s_MetricTree_pages) (defBody s_MetricTree_pages) (defScope s_MetricTree_pages) .none kV36 dc36 pm36 an36 cd36 ct36), sl36⟩)
    (c36_0 : PySem.W.codeIn K0 cd36 "MetricTree.pages" = true)
    (k36_0 : PySem.W.keepIn K0 (.ref f36) = true)
    (a37_0 : PySem.W.nsIn K0 mainGlobals "read_groups" = some (some (.ref f37)))
    (l37_0 : K0.lookup f37 = some ⟨oc37, od37, .func (PySem.W.fnOf "read_groups" "read_groups" (defArgs s_read_groups) (defBody s_read_groups) (defScope s_read_groups) .none kV37 dc37 pm37 an37 cd37 ct37), sl37⟩)
    (c37_0 : PySem.W.codeIn K0 cd37 "read_groups" = true)
    (k37_0 : PySem.W.keepIn K0 (.ref f37) = true)
    (a38_0 : PySem.W.findIn K0 (.ref C_Pager) "__init__" = some (some (.ref f38)))
    (i38_0 : PySem.W.isFn K0 (.ref f38) = true)
    (l38_0 : K0.lookup f38 = some ⟨oc38, od38, .func (PySem.W.fnOf "__init__" "Pager.__init__" (defArgs s_Pager___init__) (defBody s_Pager___init__) (defScope s_Pager___init__) .none kV38 dc38 pm38 an38 cd38 ct38), sl38⟩)
    (c38_0 : PySem.W.codeIn K0 cd38 "Pager.__init__" = true)
    (k38_0 : PySem.W.keepIn K0 (.ref f38) = true)
    (a39_0 : PySem.W.findIn K0 (.ref C_Pager) "count_head" = some (some (.ref f39)))
    (i39_0 : PySem.W.isFn K0 (.ref f39) = true)
    (l39_0 : K0.lookup f39 = some ⟨oc39, od39, .func (PySem.W.fnOf "count_head" "Pager.count_head" (defArgs s_Pager_count_head) (defBody s_Pager_count_head) (defScope s_Pager_count_head) .none kV39 dc39 pm39 an39 cd39 ct39), sl39⟩)
    (c39_0 : PySem.W.codeIn K0 cd39 "Pager.count_head" = true)
    (k39_0 : PySem.W.keepIn K0 (.ref f39) = true)
    (a40_0 : PySem.W.findIn K0 (.ref C_Pager) "read" = some (some (.ref f40)))
    (i40_0 : PySem.W.isFn K0 (.ref f40) = true)
    (l40_0 : K0.lookup f40 = some ⟨oc40, od40, .func (PySem.W.fnOf "read" "Pager.read" (defArgs s_Pager_read) (defBody s_Pager_read) (defScope s_Pager_read) .none kV40 dc40 pm40 an40 cd40 ct40), sl40⟩)
    (c40_0 : PySem.W.codeIn K0 cd40 "Pager.read" = true)
    (k40_0 : PySem.W.keepIn K0 (.ref f40) = true)
    (a41_0 : PySem.W.findIn K0 (.ref C_Pager) "write" = some (some (.ref f41)))
    (i41_0 : PySem.W.isFn K0 (.ref f41) = true)
    (l41_0 : K0.lookup f41 = some ⟨oc41, od41, .func (PySem.W.fnOf "write" "Pager.write" (defArgs s_Pager_write) (defBody s_Pager_write) (defScope s_Pager_write) .none kV41 dc41 pm41 an41 cd41 ct41), sl41⟩)
    (c41_0 : PySem.W.codeIn K0 cd41 "Pager.write" = true)
    (k41_0 : PySem.W.keepIn K0 (.ref f41) = true)
    (a42_0 : PySem.W.findIn K0 (.ref C_Pager) "field" = some (some (.ref f42)))
    (i42_0 : PySem.W.isFn K0 (.ref f42) = true)
    (l42_0 : K0.lookup f42 = some ⟨oc42, od42, .func (PySem.W.fnOf "field" "Pager.field" (defArgs s_Pager_field) (defBody s_Pager_field) (defScope s_Pager_field) .none kV42 dc42 pm42 an42 cd42 ct42), sl42⟩)
    (c42_0 : PySem.W.codeIn K0 cd42 "Pager.field" = true)
    (k42_0 : PySem.W.keepIn K0 (.ref f42) = true)
    (a43_0 : PySem.W.findIn K0 (.ref C_Pager) "set_field" = some (some (.ref f43)))
    (i43_0 : PySem.W.isFn K0 (.ref f43) = true)
    (l43_0 : K0.lookup f43 = some ⟨oc43, od43, .func (PySem.W.fnOf "set_field" "Pager.set_field" (defArgs s_Pager_set_field) (defBody s_Pager_set_field) (defScope s_Pager_set_field) .none kV43 dc43 pm43 an43 cd43 ct43), sl43⟩)
    (c43_0 : PySem.W.codeIn K0 cd43 "Pager.set_field" = true)
    (k43_0 : PySem.W.keepIn K0 (.ref f43) = true)
    (a44_0 : PySem.W.findIn K0 (.ref C_Pager) "allocate" = some (some (.ref f44)))
    (i44_0 : PySem.W.isFn K0 (.ref f44) = true)
    (l44_0 : K0.lookup f44 = some ⟨oc44, od44, .func (PySem.W.fnOf "allocate" "Pager.allocate" (defArgs s_Pager_allocate) (defBody s_Pager_allocate) (defScope s_Pager_allocate) .none kV44 dc44 pm44 an44 cd44 ct44), sl44⟩)
    (c44_0 : PySem.W.codeIn K0 cd44 "Pager.allocate" = true)
    (k44_0 : PySem.W.keepIn K0 (.ref f44) = true)
    (a45_0 : PySem.W.findIn K0 (.ref C_Pager) "release" = some (some (.ref f45)))
    (i45_0 : PySem.W.isFn K0 (.ref f45) = true)
    (l45_0 : K0.lookup f45 = some ⟨oc45, od45, .func (PySem.W.fnOf "release" "Pager.release" (defArgs s_Pager_release) (defBody s_Pager_release) (defScope s_Pager_release) .none kV45 dc45 pm45 an45 cd45 ct45), sl45⟩)
    (c45_0 : PySem.W.codeIn K0 cd45 "Pager.release" = true)
    (k45_0 : PySem.W.keepIn K0 (.ref f45) = true)
    (a46_0 : PySem.W.findIn K0 (.ref C_Pager) "commit" = some (some (.ref f46)))
    (i46_0 : PySem.W.isFn K0 (.ref f46) = true)
    (l46_0 : K0.lookup f46 = some ⟨oc46, od46, .func (PySem.W.fnOf "commit" "Pager.commit" (defArgs s_Pager_commit) (defBody s_Pager_commit) (defScope s_Pager_commit) .none kV46 dc46 pm46 an46 cd46 ct46), sl46⟩)
    (c46_0 : PySem.W.codeIn K0 cd46 "Pager.commit" = true)
    (k46_0 : PySem.W.keepIn K0 (.ref f46) = true)
    (a47_0 : PySem.W.findIn K0 (.ref C_Pager) "checkpoint" = some (some (.ref f47)))
    (i47_0 : PySem.W.isFn K0 (.ref f47) = true)
    (l47_0 : K0.lookup f47 = some ⟨oc47, od47, .func (PySem.W.fnOf "checkpoint" "Pager.checkpoint" (defArgs s_Pager_checkpoint) (defBody s_Pager_checkpoint) (defScope s_Pager_checkpoint) .none kV47 dc47 pm47 an47 cd47 ct47), sl47⟩)
    (c47_0 : PySem.W.codeIn K0 cd47 "Pager.checkpoint" = true)
    (k47_0 : PySem.W.keepIn K0 (.ref f47) = true)
    (a48_0 : PySem.W.findIn K0 (.ref C_Pager) "rollback" = some (some (.ref f48)))
    (i48_0 : PySem.W.isFn K0 (.ref f48) = true)
    (l48_0 : K0.lookup f48 = some ⟨oc48, od48, .func (PySem.W.fnOf "rollback" "Pager.rollback" (defArgs s_Pager_rollback) (defBody s_Pager_rollback) (defScope s_Pager_rollback) .none kV48 dc48 pm48 an48 cd48 ct48), sl48⟩)
    (c48_0 : PySem.W.codeIn K0 cd48 "Pager.rollback" = true)
    (k48_0 : PySem.W.keepIn K0 (.ref f48) = true)
    (a49_0 : PySem.W.nsIn K0 mainGlobals "_law_draw" = some (some (.ref f49)))
    (l49_0 : K0.lookup f49 = some ⟨oc49, od49, .func (PySem.W.fnOf "_law_draw" "_law_draw" (defArgs s__law_draw) (defBody s__law_draw) (defScope s__law_draw) .none kV49 dc49 pm49 an49 cd49 ct49), sl49⟩)
    (c49_0 : PySem.W.codeIn K0 cd49 "_law_draw" = true)
    (k49_0 : PySem.W.keepIn K0 (.ref f49) = true)
    (a50_0 : PySem.W.nsIn K0 mainGlobals "_law_point" = some (some (.ref f50)))
    (l50_0 : K0.lookup f50 = some ⟨oc50, od50, .func (PySem.W.fnOf "_law_point" "_law_point" (defArgs s__law_point) (defBody s__law_point) (defScope s__law_point) .none kV50 dc50 pm50 an50 cd50 ct50), sl50⟩)
    (c50_0 : PySem.W.codeIn K0 cd50 "_law_point" = true)
    (k50_0 : PySem.W.keepIn K0 (.ref f50) = true)
    (a51_0 : PySem.W.nsIn K0 mainGlobals "_law_spanned" = some (some (.ref f51)))
    (l51_0 : K0.lookup f51 = some ⟨oc51, od51, .func (PySem.W.fnOf "_law_spanned" "_law_spanned" (defArgs s__law_spanned) (defBody s__law_spanned) (defScope s__law_spanned) .none kV51 dc51 pm51 an51 cd51 ct51), sl51⟩)
    (c51_0 : PySem.W.codeIn K0 cd51 "_law_spanned" = true)
    (k51_0 : PySem.W.keepIn K0 (.ref f51) = true)
    (a52_0 : PySem.W.nsIn K0 mainGlobals "_law_far" = some (some (.ref f52)))
    (l52_0 : K0.lookup f52 = some ⟨oc52, od52, .func (PySem.W.fnOf "_law_far" "_law_far" (defArgs s__law_far) (defBody s__law_far) (defScope s__law_far) .none kV52 dc52 pm52 an52 cd52 ct52), sl52⟩)
    (c52_0 : PySem.W.codeIn K0 cd52 "_law_far" = true)
    (k52_0 : PySem.W.keepIn K0 (.ref f52) = true)
    (a53_0 : PySem.W.nsIn K0 mainGlobals "_law_built" = some (some (.ref f53)))
    (l53_0 : K0.lookup f53 = some ⟨oc53, od53, .func (PySem.W.fnOf "_law_built" "_law_built" (defArgs s__law_built) (defBody s__law_built) (defScope s__law_built) .none kV53 dc53 pm53 an53 cd53 ct53), sl53⟩)
    (c53_0 : PySem.W.codeIn K0 cd53 "_law_built" = true)
    (k53_0 : PySem.W.keepIn K0 (.ref f53) = true)
    (a54_0 : PySem.W.nsIn K0 mainGlobals "_law_turned" = some (some (.ref f54)))
    (l54_0 : K0.lookup f54 = some ⟨oc54, od54, .func (PySem.W.fnOf "_law_turned" "_law_turned" (defArgs s__law_turned) (defBody s__law_turned) (defScope s__law_turned) .none kV54 dc54 pm54 an54 cd54 ct54), sl54⟩)
    (c54_0 : PySem.W.codeIn K0 cd54 "_law_turned" = true)
    (k54_0 : PySem.W.keepIn K0 (.ref f54) = true)
    (a55_0 : PySem.W.nsIn K0 mainGlobals "law" = some (some (.ref f55)))
    (l55_0 : K0.lookup f55 = some ⟨oc55, od55, .func (PySem.W.fnOf "law" "law" (defArgs s_law) (defBody s_law) (defScope s_law) .none kV55 dc55 pm55 an55 (.ref cc) ct55), sl55⟩)
    (c55_0 : PySem.W.codeIn K0 (.ref cc) "law" = true)
    (k55_0 : PySem.W.keepIn K0 (.ref f55) = true)
    (g_PAGE_SIZE_0 : PySem.W.nsIn K0 mainGlobals "PAGE_SIZE" = some (some (.int 256 t_PAGE_SIZE)))
    (g_OFFSET_0 : PySem.W.nsIn K0 mainGlobals "OFFSET" = some (some (.int 32768 t_OFFSET)))
    (g_LEAF_0 : PySem.W.nsIn K0 mainGlobals "LEAF" = some (some (.int 3 t_LEAF)))
    (g_INNER_0 : PySem.W.nsIn K0 mainGlobals "INNER" = some (some (.int 4 t_INNER)))
    (g_MOST_ITEMS_0 : PySem.W.nsIn K0 mainGlobals "MOST_ITEMS" = some (some (.int 9 t_MOST_ITEMS)))
    (g_NUMBER_SIZE_0 : PySem.W.nsIn K0 mainGlobals "NUMBER_SIZE" = some (some (.int 4 t_NUMBER_SIZE)))
    (g_FIELD_SIZE_0 : PySem.W.nsIn K0 mainGlobals "FIELD_SIZE" = some (some (.int 4 t_FIELD_SIZE)))
    (g_PAGES_0 : PySem.W.nsIn K0 mainGlobals "PAGES" = some (some (.int 6 t_PAGES)))
    (g_FREE_0 : PySem.W.nsIn K0 mainGlobals "FREE" = some (some (.int 7 t_FREE)))
    (z_ValueError_0 : PySem.W.nsIn K0 mainGlobals "ValueError" = some none)
    (z_abs_0 : PySem.W.nsIn K0 mainGlobals "abs" = some none)
    (z_all_0 : PySem.W.nsIn K0 mainGlobals "all" = some none)
    (z_int_0 : PySem.W.nsIn K0 mainGlobals "int" = some none)
    (z_isinstance_0 : PySem.W.nsIn K0 mainGlobals "isinstance" = some none)
    (z_len_0 : PySem.W.nsIn K0 mainGlobals "len" = some none)
    (z_list_0 : PySem.W.nsIn K0 mainGlobals "list" = some none)
    (z_max_0 : PySem.W.nsIn K0 mainGlobals "max" = some none)
    (z_min_0 : PySem.W.nsIn K0 mainGlobals "min" = some none)
    (z_range_0 : PySem.W.nsIn K0 mainGlobals "range" = some none)
    (z_reversed_0 : PySem.W.nsIn K0 mainGlobals "reversed" = some none)
    (z_sorted_0 : PySem.W.nsIn K0 mainGlobals "sorted" = some none)
    (z_sum_0 : PySem.W.nsIn K0 mainGlobals "sum" = some none)
    (z_tuple_0 : PySem.W.nsIn K0 mainGlobals "tuple" = some none)
    (pg_Device_0 : PySem.W.plainGet K0 C_Device Str.empty = true)
    (hd_Device_0 : PySem.W.hasDictIn K0 C_Device = true)
    (po_Device_0 : PySem.W.plainOver K0 C_Device = true)
    (sa_Device_0 : PySem.W.findIn K0 (.ref C_Device) "__setattr__" = some (some (.builtin "object.__setattr__")))
    (mk_Device_0 : PySem.W.makesIn K0 C_Device = true)
    (kc_Device_0 : PySem.W.keepIn K0 (.ref C_Device) = true)
    (n_Device_pages_0 : PySem.W.findIn K0 (.ref C_Device) "pages" = some none)
    (n_Device_page_writes_0 : PySem.W.findIn K0 (.ref C_Device) "page_writes" = some none)
    (n_Device_durable_log_0 : PySem.W.findIn K0 (.ref C_Device) "durable_log" = some none)
    (n_Device_log_steps_0 : PySem.W.findIn K0 (.ref C_Device) "log_steps" = some none)
    (n_Device_done_0 : PySem.W.findIn K0 (.ref C_Device) "done" = some none)
    (n_Device_most_0 : PySem.W.findIn K0 (.ref C_Device) "most" = some none)
    (pg_MetricTree_0 : PySem.W.plainGet K0 C_MetricTree Str.empty = true)
    (hd_MetricTree_0 : PySem.W.hasDictIn K0 C_MetricTree = true)
    (po_MetricTree_0 : PySem.W.plainOver K0 C_MetricTree = true)
    (sa_MetricTree_0 : PySem.W.findIn K0 (.ref C_MetricTree) "__setattr__" = some (some (.builtin "object.__setattr__")))
    (mk_MetricTree_0 : PySem.W.makesIn K0 C_MetricTree = true)
    (kc_MetricTree_0 : PySem.W.keepIn K0 (.ref C_MetricTree) = true)
    (n_MetricTree_pager_0 : PySem.W.findIn K0 (.ref C_MetricTree) "pager" = some none)
    (n_MetricTree_root_0 : PySem.W.findIn K0 (.ref C_MetricTree) "root" = some none)
    (n_MetricTree_dimensions_0 : PySem.W.findIn K0 (.ref C_MetricTree) "dimensions" = some none)
    (n_MetricTree_metric_0 : PySem.W.findIn K0 (.ref C_MetricTree) "metric" = some none)
    (pg_Pager_0 : PySem.W.plainGet K0 C_Pager Str.empty = true)
    (hd_Pager_0 : PySem.W.hasDictIn K0 C_Pager = true)
    (po_Pager_0 : PySem.W.plainOver K0 C_Pager = true)
    (sa_Pager_0 : PySem.W.findIn K0 (.ref C_Pager) "__setattr__" = some (some (.builtin "object.__setattr__")))
    (mk_Pager_0 : PySem.W.makesIn K0 C_Pager = true)
    (kc_Pager_0 : PySem.W.keepIn K0 (.ref C_Pager) = true)
    (n_Pager_device_0 : PySem.W.findIn K0 (.ref C_Pager) "device" = some none)
    (n_Pager_committed_0 : PySem.W.findIn K0 (.ref C_Pager) "committed" = some none)
    (n_Pager_dirty_0 : PySem.W.findIn K0 (.ref C_Pager) "dirty" = some none)
    (xx_VaultError_0 : PySem.W.excIn K0 C_VaultError [.type "ValueError", .type "Exception", .type "BaseException", .type "object"] "ValueError.__new__" = true)
    (xk_VaultError_0 : PySem.W.keepIn K0 (.ref C_VaultError) = true)
    (xb_VaultError_0 : PySem.W.subIn K0 (.ref C_VaultError) (.type "BaseException") = some true)
    (xt_VaultError_0 : PySem.W.typeIn K0 (.ref C_VaultError) = some (.type "type"))
    (xi_VaultError_0 : PySem.W.isClsIn K0 C_VaultError = true)
    (xs_VaultError_0 : PySem.W.subIn K0 (.ref C_VaultError) (.ref C_VaultError) = some true)
    (xx_PowerCut_0 : PySem.W.excIn K0 C_PowerCut [.type "ValueError", .type "Exception", .type "BaseException", .type "object"] "ValueError.__new__" = true)
    (xk_PowerCut_0 : PySem.W.keepIn K0 (.ref C_PowerCut) = true)
    (xb_PowerCut_0 : PySem.W.subIn K0 (.ref C_PowerCut) (.type "BaseException") = some true)
    (xt_PowerCut_0 : PySem.W.typeIn K0 (.ref C_PowerCut) = some (.type "type"))
    (xi_PowerCut_0 : PySem.W.isClsIn K0 C_PowerCut = true)
    (xs_PowerCut_0 : PySem.W.subIn K0 (.ref C_PowerCut) (.ref C_PowerCut) = some true)
    (hv_0 : K0.lookup cc = some ⟨occ, odc, .fields vsc, slc⟩)
    (aC_VaultError : PySem.W.nsIn (dropT K0 445) mainGlobals "VaultError" = some (some (.ref C_VaultError)))
    (aC_PowerCut : PySem.W.nsIn (dropT K0 445) mainGlobals "PowerCut" = some (some (.ref C_PowerCut)))
    (aC_Device : PySem.W.nsIn (dropT K0 445) mainGlobals "Device" = some (some (.ref C_Device)))
    (aC_MetricTree : PySem.W.nsIn (dropT K0 445) mainGlobals "MetricTree" = some (some (.ref C_MetricTree)))
    (aC_Pager : PySem.W.nsIn (dropT K0 445) mainGlobals "Pager" = some (some (.ref C_Pager)))
    (a1 : PySem.W.nsIn (dropT K0 445) mainGlobals "_wall" = some (some (.ref f1)))
    (l1 : (dropT K0 445).lookup f1 = some ⟨oc1, od1, .func (PySem.W.fnOf "_wall" "_wall" (defArgs s__wall) (defBody s__wall) (defScope s__wall) .none kV1 dc1 pm1 an1 cd1 ct1), sl1⟩)
    (c1 : PySem.W.codeIn (dropT K0 445) cd1 "_wall" = true)
    (k1 : PySem.W.keepIn (dropT K0 445) (.ref f1) = true)
    (a2 : PySem.W.findIn (dropT K0 445) (.ref C_Device) "__init__" = some (some (.ref f2)))
    (i2 : PySem.W.isFn (dropT K0 445) (.ref f2) = true)
    (l2 : (dropT K0 445).lookup f2 = some ⟨oc2, od2, .func (PySem.W.fnOf "__init__" "Device.__init__" (defArgs s_Device___init__) (defBody s_Device___init__) (defScope s_Device___init__) .none kV2 dc2 pm2 an2 cd2 ct2), sl2⟩)
    (c2 : PySem.W.codeIn (dropT K0 445) cd2 "Device.__init__" = true)
    (k2 : PySem.W.keepIn (dropT K0 445) (.ref f2) = true)
    (a3 : PySem.W.findIn (dropT K0 445) (.ref C_Device) "step" = some (some (.ref f3)))
    (i3 : PySem.W.isFn (dropT K0 445) (.ref f3) = true)
    (l3 : (dropT K0 445).lookup f3 = some ⟨oc3, od3, .func (PySem.W.fnOf "step" "Device.step" (defArgs s_Device_step) (defBody s_Device_step) (defScope s_Device_step) .none kV3 dc3 pm3 an3 cd3 ct3), sl3⟩)
    (c3 : PySem.W.codeIn (dropT K0 445) cd3 "Device.step" = true)
    (k3 : PySem.W.keepIn (dropT K0 445) (.ref f3) = true)
    (a4 : PySem.W.findIn (dropT K0 445) (.ref C_Device) "write_page" = some (some (.ref f4)))
    (i4 : PySem.W.isFn (dropT K0 445) (.ref f4) = true)
    (l4 : (dropT K0 445).lookup f4 = some ⟨oc4, od4, .func (PySem.W.fnOf "write_page" "Device.write_page" (defArgs s_Device_write_page) (defBody s_Device_write_page) (defScope s_Device_write_page) .none kV4 dc4 pm4 an4 cd4 ct4), sl4⟩)
    (c4 : PySem.W.codeIn (dropT K0 445) cd4 "Device.write_page" = true)
    (k4 : PySem.W.keepIn (dropT K0 445) (.ref f4) = true)
    (a5 : PySem.W.findIn (dropT K0 445) (.ref C_Device) "sync_pages" = some (some (.ref f5)))
    (i5 : PySem.W.isFn (dropT K0 445) (.ref f5) = true)
    (l5 : (dropT K0 445).lookup f5 = some ⟨oc5, od5, .func (PySem.W.fnOf "sync_pages" "Device.sync_pages" (defArgs s_Device_sync_pages) (defBody s_Device_sync_pages) (defScope s_Device_sync_pages) .none kV5 dc5 pm5 an5 cd5 ct5), sl5⟩)
    (c5 : PySem.W.codeIn (dropT K0 445) cd5 "Device.sync_pages" = true)
    (k5 : PySem.W.keepIn (dropT K0 445) (.ref f5) = true)
    (a6 : PySem.W.findIn (dropT K0 445) (.ref C_Device) "append" = some (some (.ref f6)))
    (i6 : PySem.W.isFn (dropT K0 445) (.ref f6) = true)
    (l6 : (dropT K0 445).lookup f6 = some ⟨oc6, od6, .func (PySem.W.fnOf "append" "Device.append" (defArgs s_Device_append) (defBody s_Device_append) (defScope s_Device_append) .none kV6 dc6 pm6 an6 cd6 ct6), sl6⟩)
    (c6 : PySem.W.codeIn (dropT K0 445) cd6 "Device.append" = true)
    (k6 : PySem.W.keepIn (dropT K0 445) (.ref f6) = true)
    (a7 : PySem.W.findIn (dropT K0 445) (.ref C_Device) "clear" = some (some (.ref f7)))
    (i7 : PySem.W.isFn (dropT K0 445) (.ref f7) = true)
    (l7 : (dropT K0 445).lookup f7 = some ⟨oc7, od7, .func (PySem.W.fnOf "clear" "Device.clear" (defArgs s_Device_clear) (defBody s_Device_clear) (defScope s_Device_clear) .none kV7 dc7 pm7 an7 cd7 ct7), sl7⟩)
    (c7 : PySem.W.codeIn (dropT K0 445) cd7 "Device.clear" = true)
    (k7 : PySem.W.keepIn (dropT K0 445) (.ref f7) = true)
    (a8 : PySem.W.findIn (dropT K0 445) (.ref C_Device) "sync_log" = some (some (.ref f8)))
    (i8 : PySem.W.isFn (dropT K0 445) (.ref f8) = true)
    (l8 : (dropT K0 445).lookup f8 = some ⟨oc8, od8, .func (PySem.W.fnOf "sync_log" "Device.sync_log" (defArgs s_Device_sync_log) (defBody s_Device_sync_log) (defScope s_Device_sync_log) .none kV8 dc8 pm8 an8 cd8 ct8), sl8⟩)
    (c8 : PySem.W.codeIn (dropT K0 445) cd8 "Device.sync_log" = true)
    (k8 : PySem.W.keepIn (dropT K0 445) (.ref f8) = true)
    (a9 : PySem.W.findIn (dropT K0 445) (.ref C_Device) "durable_page" = some (some (.ref f9)))
    (i9 : PySem.W.isFn (dropT K0 445) (.ref f9) = true)
    (l9 : (dropT K0 445).lookup f9 = some ⟨oc9, od9, .func (PySem.W.fnOf "durable_page" "Device.durable_page" (defArgs s_Device_durable_page) (defBody s_Device_durable_page) (defScope s_Device_durable_page) .none kV9 dc9 pm9 an9 cd9 ct9), sl9⟩)
    (c9 : PySem.W.codeIn (dropT K0 445) cd9 "Device.durable_page" = true)
    (k9 : PySem.W.keepIn (dropT K0 445) (.ref f9) = true)
    (a10 : PySem.W.findIn (dropT K0 445) (.ref C_Device) "page" = some (some (.ref f10)))
    (i10 : PySem.W.isFn (dropT K0 445) (.ref f10) = true)
    (l10 : (dropT K0 445).lookup f10 = some ⟨oc10, od10, .func (PySem.W.fnOf "page" "Device.page" (defArgs s_Device_page) (defBody s_Device_page) (defScope s_Device_page) .none kV10 dc10 pm10 an10 cd10 ct10), sl10⟩)
    (c10 : PySem.W.codeIn (dropT K0 445) cd10 "Device.page" = true)
    (k10 : PySem.W.keepIn (dropT K0 445) (.ref f10) = true)
    (a11 : PySem.W.findIn (dropT K0 445) (.ref C_Device) "log" = some (some (.ref f11)))
    (i11 : PySem.W.isFn (dropT K0 445) (.ref f11) = true)
    (l11 : (dropT K0 445).lookup f11 = some ⟨oc11, od11, .func (PySem.W.fnOf "log" "Device.log" (defArgs s_Device_log) (defBody s_Device_log) (defScope s_Device_log) .none kV11 dc11 pm11 an11 cd11 ct11), sl11⟩)
    (c11 : PySem.W.codeIn (dropT K0 445) cd11 "Device.log" = true)
    (k11 : PySem.W.keepIn (dropT K0 445) (.ref f11) = true)
    (a12 : PySem.W.findIn (dropT K0 445) (.ref C_Device) "limit" = some (some (.ref f12)))
    (i12 : PySem.W.isFn (dropT K0 445) (.ref f12) = true)
    (l12 : (dropT K0 445).lookup f12 = some ⟨oc12, od12, .func (PySem.W.fnOf "limit" "Device.limit" (defArgs s_Device_limit) (defBody s_Device_limit) (defScope s_Device_limit) .none kV12 dc12 pm12 an12 cd12 ct12), sl12⟩)
    (c12 : PySem.W.codeIn (dropT K0 445) cd12 "Device.limit" = true)
    (k12 : PySem.W.keepIn (dropT K0 445) (.ref f12) = true)
    (a13 : PySem.W.findIn (dropT K0 445) (.ref C_Device) "crash" = some (some (.ref f13)))
    (i13 : PySem.W.isFn (dropT K0 445) (.ref f13) = true)
    (l13 : (dropT K0 445).lookup f13 = some ⟨oc13, od13, .func (PySem.W.fnOf "crash" "Device.crash" (defArgs s_Device_crash) (defBody s_Device_crash) (defScope s_Device_crash) .none kV13 dc13 pm13 an13 cd13 ct13), sl13⟩)
    (c13 : PySem.W.codeIn (dropT K0 445) cd13 "Device.crash" = true)
    (k13 : PySem.W.keepIn (dropT K0 445) (.ref f13) = true)
    (a14 : PySem.W.findIn (dropT K0 445) (.ref C_Device) "steps" = some (some (.ref f14)))
    (i14 : PySem.W.isFn (dropT K0 445) (.ref f14) = true)
    (l14 : (dropT K0 445).lookup f14 = some ⟨oc14, od14, .func (PySem.W.fnOf "steps" "Device.steps" (defArgs s_Device_steps) (defBody s_Device_steps) (defScope s_Device_steps) .none kV14 dc14 pm14 an14 cd14 ct14), sl14⟩)
    (c14 : PySem.W.codeIn (dropT K0 445) cd14 "Device.steps" = true)
    (k14 : PySem.W.keepIn (dropT K0 445) (.ref f14) = true)
    (a15 : PySem.W.findIn (dropT K0 445) (.ref C_Device) "pending" = some (some (.ref f15)))
    (i15 : PySem.W.isFn (dropT K0 445) (.ref f15) = true)
    (l15 : (dropT K0 445).lookup f15 = some ⟨oc15, od15, .func (PySem.W.fnOf "pending" "Device.pending" (defArgs s_Device_pending) (defBody s_Device_pending) (defScope s_Device_pending) .none kV15 dc15 pm15 an15 cd15 ct15), sl15⟩)
    (c15 : PySem.W.codeIn (dropT K0 445) cd15 "Device.pending" = true)
    (k15 : PySem.W.keepIn (dropT K0 445) (.ref f15) = true)
    (a16 : PySem.W.nsIn (dropT K0 445) mainGlobals "distance" = some (some (.ref f16)))
    (l16 : (dropT K0 445).lookup f16 = some ⟨oc16, od16, .func (PySem.W.fnOf "distance" "distance" (defArgs s_distance) (defBody s_distance) (defScope s_distance) .none kV16 dc16 pm16 an16 cd16 ct16), sl16⟩)
    (c16 : PySem.W.codeIn (dropT K0 445) cd16 "distance" = true)
    (k16 : PySem.W.keepIn (dropT K0 445) (.ref f16) = true)
    (a17 : PySem.W.nsIn (dropT K0 445) mainGlobals "write_number" = some (some (.ref f17)))
    (l17 : (dropT K0 445).lookup f17 = some ⟨oc17, od17, .func (PySem.W.fnOf "write_number" "write_number" (defArgs s_write_number) (defBody s_write_number) (defScope s_write_number) .none kV17 dc17 pm17 an17 cd17 ct17), sl17⟩)
    (c17 : PySem.W.codeIn (dropT K0 445) cd17 "write_number" = true)
    (k17 : PySem.W.keepIn (dropT K0 445) (.ref f17) = true)
    (a18 : PySem.W.nsIn (dropT K0 445) mainGlobals "read_number" = some (some (.ref f18)))
    (l18 : (dropT K0 445).lookup f18 = some ⟨oc18, od18, .func (PySem.W.fnOf "read_number" "read_number" (defArgs s_read_number) (defBody s_read_number) (defScope s_read_number) .none kV18 dc18 pm18 an18 cd18 ct18), sl18⟩)
    (c18 : PySem.W.codeIn (dropT K0 445) cd18 "read_number" = true)
    (k18 : PySem.W.keepIn (dropT K0 445) (.ref f18) = true)
    (a19 : PySem.W.nsIn (dropT K0 445) mainGlobals "write_point" = some (some (.ref f19)))
    (l19 : (dropT K0 445).lookup f19 = some ⟨oc19, od19, .func (PySem.W.fnOf "write_point" "write_point" (defArgs s_write_point) (defBody s_write_point) (defScope s_write_point) .none kV19 dc19 pm19 an19 cd19 ct19), sl19⟩)
    (c19 : PySem.W.codeIn (dropT K0 445) cd19 "write_point" = true)
    (k19 : PySem.W.keepIn (dropT K0 445) (.ref f19) = true)
    (a20 : PySem.W.nsIn (dropT K0 445) mainGlobals "read_point" = some (some (.ref f20)))
    (l20 : (dropT K0 445).lookup f20 = some ⟨oc20, od20, .func (PySem.W.fnOf "read_point" "read_point" (defArgs s_read_point) (defBody s_read_point) (defScope s_read_point) .none kV20 dc20 pm20 an20 cd20 ct20), sl20⟩)
    (c20 : PySem.W.codeIn (dropT K0 445) cd20 "read_point" = true)
    (k20 : PySem.W.keepIn (dropT K0 445) (.ref f20) = true)
    (a21 : PySem.W.nsIn (dropT K0 445) mainGlobals "filled" = some (some (.ref f21)))
    (l21 : (dropT K0 445).lookup f21 = some ⟨oc21, od21, .func (PySem.W.fnOf "filled" "filled" (defArgs s_filled) (defBody s_filled) (defScope s_filled) .none kV21 dc21 pm21 an21 cd21 ct21), sl21⟩)
    (c21 : PySem.W.codeIn (dropT K0 445) cd21 "filled" = true)
    (k21 : PySem.W.keepIn (dropT K0 445) (.ref f21) = true)
    (a22 : PySem.W.nsIn (dropT K0 445) mainGlobals "pair_of_pivots" = some (some (.ref f22)))
    (l22 : (dropT K0 445).lookup f22 = some ⟨oc22, od22, .func (PySem.W.fnOf "pair_of_pivots" "pair_of_pivots" (defArgs s_pair_of_pivots) (defBody s_pair_of_pivots) (defScope s_pair_of_pivots) .none kV22 dc22 pm22 an22 cd22 ct22), sl22⟩)
    (c22 : PySem.W.codeIn (dropT K0 445) cd22 "pair_of_pivots" = true)
    (k22 : PySem.W.keepIn (dropT K0 445) (.ref f22) = true)
    (a23 : PySem.W.findIn (dropT K0 445) (.ref C_MetricTree) "__init__" = some (some (.ref f23)))
    (i23 : PySem.W.isFn (dropT K0 445) (.ref f23) = true)
    (l23 : (dropT K0 445).lookup f23 = some ⟨oc23, od23, .func (PySem.W.fnOf "__init__" "MetricTree.__init__" (defArgs s_MetricTree___init__) (defBody s_MetricTree___init__) (defScope s_MetricTree___init__) .none kV23 dc23 pm23 an23 cd23 ct23), sl23⟩)
    (c23 : PySem.W.codeIn (dropT K0 445) cd23 "MetricTree.__init__" = true)
    (k23 : PySem.W.keepIn (dropT K0 445) (.ref f23) = true)
    (a24 : PySem.W.findIn (dropT K0 445) (.ref C_MetricTree) "load" = some (some (.ref f24)))
    (i24 : PySem.W.isFn (dropT K0 445) (.ref f24) = true)
    (l24 : (dropT K0 445).lookup f24 = some ⟨oc24, od24, .func (PySem.W.fnOf "load" "MetricTree.load" (defArgs s_MetricTree_load) (defBody s_MetricTree_load) (defScope s_MetricTree_load) .none kV24 dc24 pm24 an24 cd24 ct24), sl24⟩)
    (c24 : PySem.W.codeIn (dropT K0 445) cd24 "MetricTree.load" = true)
    (k24 : PySem.W.keepIn (dropT K0 445) (.ref f24) = true)
    (a25 : PySem.W.findIn (dropT K0 445) (.ref C_MetricTree) "store" = some (some (.ref f25)))
    (i25 : PySem.W.isFn (dropT K0 445) (.ref f25) = true)
    (l25 : (dropT K0 445).lookup f25 = some ⟨oc25, od25, .func (PySem.W.fnOf "store" "MetricTree.store" (defArgs s_MetricTree_store) (defBody s_MetricTree_store) (defScope s_MetricTree_store) .none kV25 dc25 pm25 an25 cd25 ct25), sl25⟩)
    (c25 : PySem.W.codeIn (dropT K0 445) cd25 "MetricTree.store" = true)
    (k25 : PySem.W.keepIn (dropT K0 445) (.ref f25) = true)
    (a26 : PySem.W.findIn (dropT K0 445) (.ref C_MetricTree) "point_of" = some (some (.ref f26)))
    (i26 : PySem.W.isFn (dropT K0 445) (.ref f26) = true)
    (l26 : (dropT K0 445).lookup f26 = some ⟨oc26, od26, .func (PySem.W.fnOf "point_of" "MetricTree.point_of" (defArgs s_MetricTree_point_of) (defBody s_MetricTree_point_of) (defScope s_MetricTree_point_of) .none kV26 dc26 pm26 an26 cd26 ct26), sl26⟩)
    (c26 : PySem.W.codeIn (dropT K0 445) cd26 "MetricTree.point_of" = true)
    (k26 : PySem.W.keepIn (dropT K0 445) (.ref f26) = true)
    (a27 : PySem.W.findIn (dropT K0 445) (.ref C_MetricTree) "radius_of" = some (some (.ref f27)))
    (i27 : PySem.W.isFn (dropT K0 445) (.ref f27) = true)
    (l27 : (dropT K0 445).lookup f27 = some ⟨oc27, od27, .func (PySem.W.fnOf "radius_of" "MetricTree.radius_of" (defArgs s_MetricTree_radius_of) (defBody s_MetricTree_radius_of) (defScope s_MetricTree_radius_of) .none kV27 dc27 pm27 an27 cd27 ct27), sl27⟩)
    (c27 : PySem.W.codeIn (dropT K0 445) cd27 "MetricTree.radius_of" = true)
    (k27 : PySem.W.keepIn (dropT K0 445) (.ref f27) = true)
    (a28 : PySem.W.findIn (dropT K0 445) (.ref C_MetricTree) "halves" = some (some (.ref f28)))
    (i28 : PySem.W.isFn (dropT K0 445) (.ref f28) = true)
    (l28 : (dropT K0 445).lookup f28 = some ⟨oc28, od28, .func (PySem.W.fnOf "halves" "MetricTree.halves" (defArgs s_MetricTree_halves) (defBody s_MetricTree_halves) (defScope s_MetricTree_halves) .none kV28 dc28 pm28 an28 cd28 ct28), sl28⟩)
    (c28 : PySem.W.codeIn (dropT K0 445) cd28 "MetricTree.halves" = true)
    (k28 : PySem.W.keepIn (dropT K0 445) (.ref f28) = true)
    (a29 : PySem.W.findIn (dropT K0 445) (.ref C_MetricTree) "save" = some (some (.ref f29)))
    (i29 : PySem.W.isFn (dropT K0 445) (.ref f29) = true)
    (l29 : (dropT K0 445).lookup f29 = some ⟨oc29, od29, .func (PySem.W.fnOf "save" "MetricTree.save" (defArgs s_MetricTree_save) (defBody s_MetricTree_save) (defScope s_MetricTree_save) .none kV29 dc29 pm29 an29 cd29 ct29), sl29⟩)
    (c29 : PySem.W.codeIn (dropT K0 445) cd29 "MetricTree.save" = true)
    (k29 : PySem.W.keepIn (dropT K0 445) (.ref f29) = true)
    (a30 : PySem.W.findIn (dropT K0 445) (.ref C_MetricTree) "insert" = some (some (.ref f30)))
    (i30 : PySem.W.isFn (dropT K0 445) (.ref f30) = true)
    (l30 : (dropT K0 445).lookup f30 = some ⟨oc30, od30, .func (PySem.W.fnOf "insert" "MetricTree.insert" (defArgs s_MetricTree_insert) (defBody s_MetricTree_insert) (defScope s_MetricTree_insert) .none kV30 dc30 pm30 an30 cd30 ct30), sl30⟩)
    (c30 : PySem.W.codeIn (dropT K0 445) cd30 "MetricTree.insert" = true)
    (k30 : PySem.W.keepIn (dropT K0 445) (.ref f30) = true)
    (a31 : PySem.W.findIn (dropT K0 445) (.ref C_MetricTree) "path_to" = some (some (.ref f31)))
    (i31 : PySem.W.isFn (dropT K0 445) (.ref f31) = true)
    (l31 : (dropT K0 445).lookup f31 = some ⟨oc31, od31, .func (PySem.W.fnOf "path_to" "MetricTree.path_to" (defArgs s_MetricTree_path_to) (defBody s_MetricTree_path_to) (defScope s_MetricTree_path_to) .none kV31 dc31 pm31 an31 cd31 ct31), sl31⟩)
    (c31 : PySem.W.codeIn (dropT K0 445) cd31 "MetricTree.path_to" = true)
    (k31 : PySem.W.keepIn (dropT K0 445) (.ref f31) = true)
    (a32 : PySem.W.findIn (dropT K0 445) (.ref C_MetricTree) "delete" = some (some (.ref f32)))
    (i32 : PySem.W.isFn (dropT K0 445) (.ref f32) = true)
    (l32 : (dropT K0 445).lookup f32 = some ⟨oc32, od32, .func (PySem.W.fnOf "delete" "MetricTree.delete" (defArgs s_MetricTree_delete) (defBody s_MetricTree_delete) (defScope s_MetricTree_delete) .none kV32 dc32 pm32 an32 cd32 ct32), sl32⟩)
    (c32 : PySem.W.codeIn (dropT K0 445) cd32 "MetricTree.delete" = true)
    (k32 : PySem.W.keepIn (dropT K0 445) (.ref f32) = true)
    (a33 : PySem.W.findIn (dropT K0 445) (.ref C_MetricTree) "lower" = some (some (.ref f33)))
    (i33 : PySem.W.isFn (dropT K0 445) (.ref f33) = true)
    (l33 : (dropT K0 445).lookup f33 = some ⟨oc33, od33, .func (PySem.W.fnOf "lower" "MetricTree.lower" (defArgs s_MetricTree_lower) (defBody s_MetricTree_lower) (defScope s_MetricTree_lower) .none kV33 dc33 pm33 an33 cd33 ct33), sl33⟩)
    (c33 : PySem.W.codeIn (dropT K0 445) cd33 "MetricTree.lower" = true)
    (k33 : PySem.W.keepIn (dropT K0 445) (.ref f33) = true)
    (a34 : PySem.W.findIn (dropT K0 445) (.ref C_MetricTree) "nearest" = some (some (.ref f34)))
    (i34 : PySem.W.isFn (dropT K0 445) (.ref f34) = true)
    (l34 : (dropT K0 445).lookup f34 = some ⟨oc34, od34, .func (PySem.W.fnOf "nearest" "MetricTree.nearest" (defArgs s_MetricTree_nearest) (defBody s_MetricTree_nearest) (defScope s_MetricTree_nearest) .none kV34 dc34 pm34 an34 cd34 ct34), sl34⟩)
    (c34 : PySem.W.codeIn (dropT K0 445) cd34 "MetricTree.nearest" = true)
    (k34 : PySem.W.keepIn (dropT K0 445) (.ref f34) = true)
    (a35 : PySem.W.findIn (dropT K0 445) (.ref C_MetricTree) "all_items" = some (some (.ref f35)))
    (i35 : PySem.W.isFn (dropT K0 445) (.ref f35) = true)
    (l35 : (dropT K0 445).lookup f35 = some ⟨oc35, od35, .func (PySem.W.fnOf "all_items" "MetricTree.all_items" (defArgs s_MetricTree_all_items) (defBody s_MetricTree_all_items) (defScope s_MetricTree_all_items) .none kV35 dc35 pm35 an35 cd35 ct35), sl35⟩)
    (c35 : PySem.W.codeIn (dropT K0 445) cd35 "MetricTree.all_items" = true)
    (k35 : PySem.W.keepIn (dropT K0 445) (.ref f35) = true)
    (a36 : PySem.W.findIn (dropT K0 445) (.ref C_MetricTree) "pages" = some (some (.ref f36)))
    (i36 : PySem.W.isFn (dropT K0 445) (.ref f36) = true)
    (l36 : (dropT K0 445).lookup f36 = some ⟨oc36, od36, .func (PySem.W.fnOf "pages" "MetricTree.pages" (defArgs s_MetricTree_pages) (defBody s_MetricTree_pages) (defScope s_MetricTree_pages) .none kV36 dc36 pm36 an36 cd36 ct36), sl36⟩)
    (c36 : PySem.W.codeIn (dropT K0 445) cd36 "MetricTree.pages" = true)
    (k36 : PySem.W.keepIn (dropT K0 445) (.ref f36) = true)
    (a37 : PySem.W.nsIn (dropT K0 445) mainGlobals "read_groups" = some (some (.ref f37)))
    (l37 : (dropT K0 445).lookup f37 = some ⟨oc37, od37, .func (PySem.W.fnOf "read_groups" "read_groups" (defArgs s_read_groups) (defBody s_read_groups) (defScope s_read_groups) .none kV37 dc37 pm37 an37 cd37 ct37), sl37⟩)
    (c37 : PySem.W.codeIn (dropT K0 445) cd37 "read_groups" = true)
    (k37 : PySem.W.keepIn (dropT K0 445) (.ref f37) = true)
    (a38 : PySem.W.findIn (dropT K0 445) (.ref C_Pager) "__init__" = some (some (.ref f38)))
    (i38 : PySem.W.isFn (dropT K0 445) (.ref f38) = true)
    (l38 : (dropT K0 445).lookup f38 = some ⟨oc38, od38, .func (PySem.W.fnOf "__init__" "Pager.__init__" (defArgs s_Pager___init__) (defBody s_Pager___init__) (defScope s_Pager___init__) .none kV38 dc38 pm38 an38 cd38 ct38), sl38⟩)
    (c38 : PySem.W.codeIn (dropT K0 445) cd38 "Pager.__init__" = true)
    (k38 : PySem.W.keepIn (dropT K0 445) (.ref f38) = true)
    (a39 : PySem.W.findIn (dropT K0 445) (.ref C_Pager) "count_head" = some (some (.ref f39)))
    (i39 : PySem.W.isFn (dropT K0 445) (.ref f39) = true)
    (l39 : (dropT K0 445).lookup f39 = some ⟨oc39, od39, .func (PySem.W.fnOf "count_head" "Pager.count_head" (defArgs s_Pager_count_head) (defBody s_Pager_count_head) (defScope s_Pager_count_head) .none kV39 dc39 pm39 an39 cd39 ct39), sl39⟩)
    (c39 : PySem.W.codeIn (dropT K0 445) cd39 "Pager.count_head" = true)
    (k39 : PySem.W.keepIn (dropT K0 445) (.ref f39) = true)
    (a40 : PySem.W.findIn (dropT K0 445) (.ref C_Pager) "read" = some (some (.ref f40)))
    (i40 : PySem.W.isFn (dropT K0 445) (.ref f40) = true)
    (l40 : (dropT K0 445).lookup f40 = some ⟨oc40, od40, .func (PySem.W.fnOf "read" "Pager.read" (defArgs s_Pager_read) (defBody s_Pager_read) (defScope s_Pager_read) .none kV40 dc40 pm40 an40 cd40 ct40), sl40⟩)
    (c40 : PySem.W.codeIn (dropT K0 445) cd40 "Pager.read" = true)
    (k40 : PySem.W.keepIn (dropT K0 445) (.ref f40) = true)
    (a41 : PySem.W.findIn (dropT K0 445) (.ref C_Pager) "write" = some (some (.ref f41)))
    (i41 : PySem.W.isFn (dropT K0 445) (.ref f41) = true)
    (l41 : (dropT K0 445).lookup f41 = some ⟨oc41, od41, .func (PySem.W.fnOf "write" "Pager.write" (defArgs s_Pager_write) (defBody s_Pager_write) (defScope s_Pager_write) .none kV41 dc41 pm41 an41 cd41 ct41), sl41⟩)
    (c41 : PySem.W.codeIn (dropT K0 445) cd41 "Pager.write" = true)
    (k41 : PySem.W.keepIn (dropT K0 445) (.ref f41) = true)
    (a42 : PySem.W.findIn (dropT K0 445) (.ref C_Pager) "field" = some (some (.ref f42)))
    (i42 : PySem.W.isFn (dropT K0 445) (.ref f42) = true)
    (l42 : (dropT K0 445).lookup f42 = some ⟨oc42, od42, .func (PySem.W.fnOf "field" "Pager.field" (defArgs s_Pager_field) (defBody s_Pager_field) (defScope s_Pager_field) .none kV42 dc42 pm42 an42 cd42 ct42), sl42⟩)
    (c42 : PySem.W.codeIn (dropT K0 445) cd42 "Pager.field" = true)
    (k42 : PySem.W.keepIn (dropT K0 445) (.ref f42) = true)
    (a43 : PySem.W.findIn (dropT K0 445) (.ref C_Pager) "set_field" = some (some (.ref f43)))
    (i43 : PySem.W.isFn (dropT K0 445) (.ref f43) = true)
    (l43 : (dropT K0 445).lookup f43 = some ⟨oc43, od43, .func (PySem.W.fnOf "set_field" "Pager.set_field" (defArgs s_Pager_set_field) (defBody s_Pager_set_field) (defScope s_Pager_set_field) .none kV43 dc43 pm43 an43 cd43 ct43), sl43⟩)
    (c43 : PySem.W.codeIn (dropT K0 445) cd43 "Pager.set_field" = true)
    (k43 : PySem.W.keepIn (dropT K0 445) (.ref f43) = true)
    (a44 : PySem.W.findIn (dropT K0 445) (.ref C_Pager) "allocate" = some (some (.ref f44)))
    (i44 : PySem.W.isFn (dropT K0 445) (.ref f44) = true)
    (l44 : (dropT K0 445).lookup f44 = some ⟨oc44, od44, .func (PySem.W.fnOf "allocate" "Pager.allocate" (defArgs s_Pager_allocate) (defBody s_Pager_allocate) (defScope s_Pager_allocate) .none kV44 dc44 pm44 an44 cd44 ct44), sl44⟩)
    (c44 : PySem.W.codeIn (dropT K0 445) cd44 "Pager.allocate" = true)
    (k44 : PySem.W.keepIn (dropT K0 445) (.ref f44) = true)
    (a45 : PySem.W.findIn (dropT K0 445) (.ref C_Pager) "release" = some (some (.ref f45)))
    (i45 : PySem.W.isFn (dropT K0 445) (.ref f45) = true)
    (l45 : (dropT K0 445).lookup f45 = some ⟨oc45, od45, .func (PySem.W.fnOf "release" "Pager.release" (defArgs s_Pager_release) (defBody s_Pager_release) (defScope s_Pager_release) .none kV45 dc45 pm45 an45 cd45 ct45), sl45⟩)
    (c45 : PySem.W.codeIn (dropT K0 445) cd45 "Pager.release" = true)
    (k45 : PySem.W.keepIn (dropT K0 445) (.ref f45) = true)
    (a46 : PySem.W.findIn (dropT K0 445) (.ref C_Pager) "commit" = some (some (.ref f46)))
    (i46 : PySem.W.isFn (dropT K0 445) (.ref f46) = true)
    (l46 : (dropT K0 445).lookup f46 = some ⟨oc46, od46, .func (PySem.W.fnOf "commit" "Pager.commit" (defArgs s_Pager_commit) (defBody s_Pager_commit) (defScope s_Pager_commit) .none kV46 dc46 pm46 an46 cd46 ct46), sl46⟩)
    (c46 : PySem.W.codeIn (dropT K0 445) cd46 "Pager.commit" = true)
    (k46 : PySem.W.keepIn (dropT K0 445) (.ref f46) = true)
    (a47 : PySem.W.findIn (dropT K0 445) (.ref C_Pager) "checkpoint" = some (some (.ref f47)))
    (i47 : PySem.W.isFn (dropT K0 445) (.ref f47) = true)
    (l47 : (dropT K0 445).lookup f47 = some ⟨oc47, od47, .func (PySem.W.fnOf "checkpoint" "Pager.checkpoint" (defArgs s_Pager_checkpoint) (defBody s_Pager_checkpoint) (defScope s_Pager_checkpoint) .none kV47 dc47 pm47 an47 cd47 ct47), sl47⟩)
    (c47 : PySem.W.codeIn (dropT K0 445) cd47 "Pager.checkpoint" = true)
    (k47 : PySem.W.keepIn (dropT K0 445) (.ref f47) = true)
    (a48 : PySem.W.findIn (dropT K0 445) (.ref C_Pager) "rollback" = some (some (.ref f48)))
    (i48 : PySem.W.isFn (dropT K0 445) (.ref f48) = true)
    (l48 : (dropT K0 445).lookup f48 = some ⟨oc48, od48, .func (PySem.W.fnOf "rollback" "Pager.rollback" (defArgs s_Pager_rollback) (defBody s_Pager_rollback) (defScope s_Pager_rollback) .none kV48 dc48 pm48 an48 cd48 ct48), sl48⟩)
    (c48 : PySem.W.codeIn (dropT K0 445) cd48 "Pager.rollback" = true)
    (k48 : PySem.W.keepIn (dropT K0 445) (.ref f48) = true)
    (a49 : PySem.W.nsIn (dropT K0 445) mainGlobals "_law_draw" = some (some (.ref f49)))
    (l49 : (dropT K0 445).lookup f49 = some ⟨oc49, od49, .func (PySem.W.fnOf "_law_draw" "_law_draw" (defArgs s__law_draw) (defBody s__law_draw) (defScope s__law_draw) .none kV49 dc49 pm49 an49 cd49 ct49), sl49⟩)
    (c49 : PySem.W.codeIn (dropT K0 445) cd49 "_law_draw" = true)
    (k49 : PySem.W.keepIn (dropT K0 445) (.ref f49) = true)
    (a50 : PySem.W.nsIn (dropT K0 445) mainGlobals "_law_point" = some (some (.ref f50)))
    (l50 : (dropT K0 445).lookup f50 = some ⟨oc50, od50, .func (PySem.W.fnOf "_law_point" "_law_point" (defArgs s__law_point) (defBody s__law_point) (defScope s__law_point) .none kV50 dc50 pm50 an50 cd50 ct50), sl50⟩)
    (c50 : PySem.W.codeIn (dropT K0 445) cd50 "_law_point" = true)
    (k50 : PySem.W.keepIn (dropT K0 445) (.ref f50) = true)
    (a51 : PySem.W.nsIn (dropT K0 445) mainGlobals "_law_spanned" = some (some (.ref f51)))
    (l51 : (dropT K0 445).lookup f51 = some ⟨oc51, od51, .func (PySem.W.fnOf "_law_spanned" "_law_spanned" (defArgs s__law_spanned) (defBody s__law_spanned) (defScope s__law_spanned) .none kV51 dc51 pm51 an51 cd51 ct51), sl51⟩)
    (c51 : PySem.W.codeIn (dropT K0 445) cd51 "_law_spanned" = true)
    (k51 : PySem.W.keepIn (dropT K0 445) (.ref f51) = true)
    (a52 : PySem.W.nsIn (dropT K0 445) mainGlobals "_law_far" = some (some (.ref f52)))
    (l52 : (dropT K0 445).lookup f52 = some ⟨oc52, od52, .func (PySem.W.fnOf "_law_far" "_law_far" (defArgs s__law_far) (defBody s__law_far) (defScope s__law_far) .none kV52 dc52 pm52 an52 cd52 ct52), sl52⟩)
    (c52 : PySem.W.codeIn (dropT K0 445) cd52 "_law_far" = true)
    (k52 : PySem.W.keepIn (dropT K0 445) (.ref f52) = true)
    (a53 : PySem.W.nsIn (dropT K0 445) mainGlobals "_law_built" = some (some (.ref f53)))
    (l53 : (dropT K0 445).lookup f53 = some ⟨oc53, od53, .func (PySem.W.fnOf "_law_built" "_law_built" (defArgs s__law_built) (defBody s__law_built) (defScope s__law_built) .none kV53 dc53 pm53 an53 cd53 ct53), sl53⟩)
    (c53 : PySem.W.codeIn (dropT K0 445) cd53 "_law_built" = true)
    (k53 : PySem.W.keepIn (dropT K0 445) (.ref f53) = true)
    (a54 : PySem.W.nsIn (dropT K0 445) mainGlobals "_law_turned" = some (some (.ref f54)))
    (l54 : (dropT K0 445).lookup f54 = some ⟨oc54, od54, .func (PySem.W.fnOf "_law_turned" "_law_turned" (defArgs s__law_turned) (defBody s__law_turned) (defScope s__law_turned) .none kV54 dc54 pm54 an54 cd54 ct54), sl54⟩)
    (c54 : PySem.W.codeIn (dropT K0 445) cd54 "_law_turned" = true)
    (k54 : PySem.W.keepIn (dropT K0 445) (.ref f54) = true)
    (a55 : PySem.W.nsIn (dropT K0 445) mainGlobals "law" = some (some (.ref f55)))
    (l55 : (dropT K0 445).lookup f55 = some ⟨oc55, od55, .func (PySem.W.fnOf "law" "law" (defArgs s_law) (defBody s_law) (defScope s_law) .none kV55 dc55 pm55 an55 (.ref cc) ct55), sl55⟩)
    (c55 : PySem.W.codeIn (dropT K0 445) (.ref cc) "law" = true)
    (k55 : PySem.W.keepIn (dropT K0 445) (.ref f55) = true)
    (g_PAGE_SIZE : PySem.W.nsIn (dropT K0 445) mainGlobals "PAGE_SIZE" = some (some (.int 256 t_PAGE_SIZE)))
    (g_OFFSET : PySem.W.nsIn (dropT K0 445) mainGlobals "OFFSET" = some (some (.int 32768 t_OFFSET)))
    (g_LEAF : PySem.W.nsIn (dropT K0 445) mainGlobals "LEAF" = some (some (.int 3 t_LEAF)))
    (g_INNER : PySem.W.nsIn (dropT K0 445) mainGlobals "INNER" = some (some (.int 4 t_INNER)))
    (g_MOST_ITEMS : PySem.W.nsIn (dropT K0 445) mainGlobals "MOST_ITEMS" = some (some (.int 9 t_MOST_ITEMS)))
    (g_NUMBER_SIZE : PySem.W.nsIn (dropT K0 445) mainGlobals "NUMBER_SIZE" = some (some (.int 4 t_NUMBER_SIZE)))
    (g_FIELD_SIZE : PySem.W.nsIn (dropT K0 445) mainGlobals "FIELD_SIZE" = some (some (.int 4 t_FIELD_SIZE)))
    (g_PAGES : PySem.W.nsIn (dropT K0 445) mainGlobals "PAGES" = some (some (.int 6 t_PAGES)))
    (g_FREE : PySem.W.nsIn (dropT K0 445) mainGlobals "FREE" = some (some (.int 7 t_FREE)))
    (z_ValueError : PySem.W.nsIn (dropT K0 445) mainGlobals "ValueError" = some none)
    (z_abs : PySem.W.nsIn (dropT K0 445) mainGlobals "abs" = some none)
    (z_all : PySem.W.nsIn (dropT K0 445) mainGlobals "all" = some none)
    (z_int : PySem.W.nsIn (dropT K0 445) mainGlobals "int" = some none)
    (z_isinstance : PySem.W.nsIn (dropT K0 445) mainGlobals "isinstance" = some none)
    (z_len : PySem.W.nsIn (dropT K0 445) mainGlobals "len" = some none)
    (z_list : PySem.W.nsIn (dropT K0 445) mainGlobals "list" = some none)
    (z_max : PySem.W.nsIn (dropT K0 445) mainGlobals "max" = some none)
    (z_min : PySem.W.nsIn (dropT K0 445) mainGlobals "min" = some none)
    (z_range : PySem.W.nsIn (dropT K0 445) mainGlobals "range" = some none)
    (z_reversed : PySem.W.nsIn (dropT K0 445) mainGlobals "reversed" = some none)
    (z_sorted : PySem.W.nsIn (dropT K0 445) mainGlobals "sorted" = some none)
    (z_sum : PySem.W.nsIn (dropT K0 445) mainGlobals "sum" = some none)
    (z_tuple : PySem.W.nsIn (dropT K0 445) mainGlobals "tuple" = some none)
    (pg_Device : PySem.W.plainGet (dropT K0 445) C_Device Str.empty = true)
    (hd_Device : PySem.W.hasDictIn (dropT K0 445) C_Device = true)
    (po_Device : PySem.W.plainOver (dropT K0 445) C_Device = true)
    (sa_Device : PySem.W.findIn (dropT K0 445) (.ref C_Device) "__setattr__" = some (some (.builtin "object.__setattr__")))
    (mk_Device : PySem.W.makesIn (dropT K0 445) C_Device = true)
    (kc_Device : PySem.W.keepIn (dropT K0 445) (.ref C_Device) = true)
    (n_Device_pages : PySem.W.findIn (dropT K0 445) (.ref C_Device) "pages" = some none)
    (n_Device_page_writes : PySem.W.findIn (dropT K0 445) (.ref C_Device) "page_writes" = some none)
    (n_Device_durable_log : PySem.W.findIn (dropT K0 445) (.ref C_Device) "durable_log" = some none)
    (n_Device_log_steps : PySem.W.findIn (dropT K0 445) (.ref C_Device) "log_steps" = some none)
    (n_Device_done : PySem.W.findIn (dropT K0 445) (.ref C_Device) "done" = some none)
    (n_Device_most : PySem.W.findIn (dropT K0 445) (.ref C_Device) "most" = some none)
    (pg_MetricTree : PySem.W.plainGet (dropT K0 445) C_MetricTree Str.empty = true)
    (hd_MetricTree : PySem.W.hasDictIn (dropT K0 445) C_MetricTree = true)
    (po_MetricTree : PySem.W.plainOver (dropT K0 445) C_MetricTree = true)
    (sa_MetricTree : PySem.W.findIn (dropT K0 445) (.ref C_MetricTree) "__setattr__" = some (some (.builtin "object.__setattr__")))
    (mk_MetricTree : PySem.W.makesIn (dropT K0 445) C_MetricTree = true)
    (kc_MetricTree : PySem.W.keepIn (dropT K0 445) (.ref C_MetricTree) = true)
    (n_MetricTree_pager : PySem.W.findIn (dropT K0 445) (.ref C_MetricTree) "pager" = some none)
    (n_MetricTree_root : PySem.W.findIn (dropT K0 445) (.ref C_MetricTree) "root" = some none)
    (n_MetricTree_dimensions : PySem.W.findIn (dropT K0 445) (.ref C_MetricTree) "dimensions" = some none)
    (n_MetricTree_metric : PySem.W.findIn (dropT K0 445) (.ref C_MetricTree) "metric" = some none)
    (pg_Pager : PySem.W.plainGet (dropT K0 445) C_Pager Str.empty = true)
    (hd_Pager : PySem.W.hasDictIn (dropT K0 445) C_Pager = true)
    (po_Pager : PySem.W.plainOver (dropT K0 445) C_Pager = true)
    (sa_Pager : PySem.W.findIn (dropT K0 445) (.ref C_Pager) "__setattr__" = some (some (.builtin "object.__setattr__")))
    (mk_Pager : PySem.W.makesIn (dropT K0 445) C_Pager = true)
    (kc_Pager : PySem.W.keepIn (dropT K0 445) (.ref C_Pager) = true)
    (n_Pager_device : PySem.W.findIn (dropT K0 445) (.ref C_Pager) "device" = some none)
    (n_Pager_committed : PySem.W.findIn (dropT K0 445) (.ref C_Pager) "committed" = some none)
    (n_Pager_dirty : PySem.W.findIn (dropT K0 445) (.ref C_Pager) "dirty" = some none)
    (xx_VaultError : PySem.W.excIn (dropT K0 445) C_VaultError [.type "ValueError", .type "Exception", .type "BaseException", .type "object"] "ValueError.__new__" = true)
    (xk_VaultError : PySem.W.keepIn (dropT K0 445) (.ref C_VaultError) = true)
    (xb_VaultError : PySem.W.subIn (dropT K0 445) (.ref C_VaultError) (.type "BaseException") = some true)
    (xt_VaultError : PySem.W.typeIn (dropT K0 445) (.ref C_VaultError) = some (.type "type"))
    (xi_VaultError : PySem.W.isClsIn (dropT K0 445) C_VaultError = true)
    (xs_VaultError : PySem.W.subIn (dropT K0 445) (.ref C_VaultError) (.ref C_VaultError) = some true)
    (xx_PowerCut : PySem.W.excIn (dropT K0 445) C_PowerCut [.type "ValueError", .type "Exception", .type "BaseException", .type "object"] "ValueError.__new__" = true)
    (xk_PowerCut : PySem.W.keepIn (dropT K0 445) (.ref C_PowerCut) = true)
    (xb_PowerCut : PySem.W.subIn (dropT K0 445) (.ref C_PowerCut) (.type "BaseException") = some true)
    (xt_PowerCut : PySem.W.typeIn (dropT K0 445) (.ref C_PowerCut) = some (.type "type"))
    (xi_PowerCut : PySem.W.isClsIn (dropT K0 445) C_PowerCut = true)
    (xs_PowerCut : PySem.W.subIn (dropT K0 445) (.ref C_PowerCut) (.ref C_PowerCut) = some true)
    (hh : PySem.W.codeHdIn (dropT K0 445) cc 445 = true)
    : LamX.LawAtS l w (dropT K0 445) CX0 179 63 "_law_script" mg fa h := by
  have X := dropT_in (T := 445) X0
  have T : Txt (dropT K0 445) mg ⟨C_VaultError, C_PowerCut, C_Device, C_MetricTree, C_Pager, cc, 445⟩ := { f__wall := ⟨f1, _, fun_mk (st := s__wall) l1 c1 k1, PySem.W.mg_of X G a1⟩, f_Device___init__ := ⟨f2, _, fun_mk (st := s_Device___init__) l2 c2 k2, a2, i2⟩, f_Device_step := ⟨f3, _, fun_mk (st := s_Device_step) l3 c3 k3, a3, i3⟩, f_Device_write_page := ⟨f4, _, fun_mk (st := s_Device_write_page) l4 c4 k4, a4, i4⟩, f_Device_sync_pages := ⟨f5, _, fun_mk (st := s_Device_sync_pages) l5 c5 k5, a5, i5⟩, f_Device_append := ⟨f6, _, fun_mk (st := s_Device_append) l6 c6 k6, a6, i6⟩, f_Device_clear := ⟨f7, _, fun_mk (st := s_Device_clear) l7 c7 k7, a7, i7⟩, f_Device_sync_log := ⟨f8, _, fun_mk (st := s_Device_sync_log) l8 c8 k8, a8, i8⟩, f_Device_durable_page := ⟨f9, _, fun_mk (st := s_Device_durable_page) l9 c9 k9, a9, i9⟩, f_Device_page := ⟨f10, _, fun_mk (st := s_Device_page) l10 c10 k10, a10, i10⟩, f_Device_log := ⟨f11, _, fun_mk (st := s_Device_log) l11 c11 k11, a11, i11⟩, f_Device_limit := ⟨f12, _, fun_mk (st := s_Device_limit) l12 c12 k12, a12, i12⟩, f_Device_crash := ⟨f13, _, fun_mk (st := s_Device_crash) l13 c13 k13, a13, i13⟩, f_Device_steps := ⟨f14, _, fun_mk (st := s_Device_steps) l14 c14 k14, a14, i14⟩, f_Device_pending := ⟨f15, _, fun_mk (st := s_Device_pending) l15 c15 k15, a15, i15⟩, f_distance := ⟨f16, _, fun_mk (st := s_distance) l16 c16 k16, PySem.W.mg_of X G a16⟩, f_write_number := ⟨f17, _, fun_mk (st := s_write_number) l17 c17 k17, PySem.W.mg_of X G a17⟩, f_read_number := ⟨f18, _, fun_mk (st := s_read_number) l18 c18 k18, PySem.W.mg_of X G a18⟩, f_write_point := ⟨f19, _, fun_mk (st := s_write_point) l19 c19 k19, PySem.W.mg_of X G a19⟩, f_read_point := ⟨f20, _, fun_mk (st := s_read_point) l20 c20 k20, PySem.W.mg_of X G a20⟩, f_filled := ⟨f21, _, fun_mk (st := s_filled) l21 c21 k21, PySem.W.mg_of X G a21⟩, f_pair_of_pivots := ⟨f22, _, fun_mk (st := s_pair_of_pivots) l22 c22 k22, PySem.W.mg_of X G a22⟩, f_MetricTree___init__ := ⟨f23, _, fun_mk (st := s_MetricTree___init__) l23 c23 k23, a23, i23⟩, f_MetricTree_load := ⟨f24, _, fun_mk (st := s_MetricTree_load) l24 c24 k24, a24, i24⟩, f_MetricTree_store := ⟨f25, _, fun_mk (st := s_MetricTree_store) l25 c25 k25, a25, i25⟩, f_MetricTree_point_of := ⟨f26, _, fun_mk (st := s_MetricTree_point_of) l26 c26 k26, a26, i26⟩, f_MetricTree_radius_of := ⟨f27, _, fun_mk (st := s_MetricTree_radius_of) l27 c27 k27, a27, i27⟩, f_MetricTree_halves := ⟨f28, _, fun_mk (st := s_MetricTree_halves) l28 c28 k28, a28, i28⟩, f_MetricTree_save := ⟨f29, _, fun_mk (st := s_MetricTree_save) l29 c29 k29, a29, i29⟩, f_MetricTree_insert := ⟨f30, _, fun_mk (st := s_MetricTree_insert) l30 c30 k30, a30, i30⟩, f_MetricTree_path_to := ⟨f31, _, fun_mk (st := s_MetricTree_path_to) l31 c31 k31, a31, i31⟩, f_MetricTree_delete := ⟨f32, _, fun_mk (st := s_MetricTree_delete) l32 c32 k32, a32, i32⟩, f_MetricTree_lower := ⟨f33, _, fun_mk (st := s_MetricTree_lower) l33 c33 k33, a33, i33⟩, f_MetricTree_nearest := ⟨f34, _, fun_mk (st := s_MetricTree_nearest) l34 c34 k34, a34, i34⟩, f_MetricTree_all_items := ⟨f35, _, fun_mk (st := s_MetricTree_all_items) l35 c35 k35, a35, i35⟩, f_MetricTree_pages := ⟨f36, _, fun_mk (st := s_MetricTree_pages) l36 c36 k36, a36, i36⟩, f_read_groups := ⟨f37, _, fun_mk (st := s_read_groups) l37 c37 k37, PySem.W.mg_of X G a37⟩, f_Pager___init__ := ⟨f38, _, fun_mk (st := s_Pager___init__) l38 c38 k38, a38, i38⟩, f_Pager_count_head := ⟨f39, _, fun_mk (st := s_Pager_count_head) l39 c39 k39, a39, i39⟩, f_Pager_read := ⟨f40, _, fun_mk (st := s_Pager_read) l40 c40 k40, a40, i40⟩, f_Pager_write := ⟨f41, _, fun_mk (st := s_Pager_write) l41 c41 k41, a41, i41⟩, f_Pager_field := ⟨f42, _, fun_mk (st := s_Pager_field) l42 c42 k42, a42, i42⟩, f_Pager_set_field := ⟨f43, _, fun_mk (st := s_Pager_set_field) l43 c43 k43, a43, i43⟩, f_Pager_allocate := ⟨f44, _, fun_mk (st := s_Pager_allocate) l44 c44 k44, a44, i44⟩, f_Pager_release := ⟨f45, _, fun_mk (st := s_Pager_release) l45 c45 k45, a45, i45⟩, f_Pager_commit := ⟨f46, _, fun_mk (st := s_Pager_commit) l46 c46 k46, a46, i46⟩, f_Pager_checkpoint := ⟨f47, _, fun_mk (st := s_Pager_checkpoint) l47 c47 k47, a47, i47⟩, f_Pager_rollback := ⟨f48, _, fun_mk (st := s_Pager_rollback) l48 c48 k48, a48, i48⟩, f__law_draw := ⟨f49, _, fun_mk (st := s__law_draw) l49 c49 k49, PySem.W.mg_of X G a49⟩, f__law_point := ⟨f50, _, fun_mk (st := s__law_point) l50 c50 k50, PySem.W.mg_of X G a50⟩, f__law_spanned := ⟨f51, _, fun_mk (st := s__law_spanned) l51 c51 k51, PySem.W.mg_of X G a51⟩, f__law_far := ⟨f52, _, fun_mk (st := s__law_far) l52 c52 k52, PySem.W.mg_of X G a52⟩, f__law_built := ⟨f53, _, fun_mk (st := s__law_built) l53 c53 k53, PySem.W.mg_of X G a53⟩, f__law_turned := ⟨f54, _, fun_mk (st := s__law_turned) l54 c54 k54, PySem.W.mg_of X G a54⟩, f_law := ⟨f55, _, ⟨⟨_, _, _, _, _, _, _, _, rfl, l55, c55⟩, k55⟩, PySem.W.mg_of X G a55⟩, m_PAGE_SIZE := ⟨_, PySem.W.mg_of X G g_PAGE_SIZE⟩, m_OFFSET := ⟨_, PySem.W.mg_of X G g_OFFSET⟩, m_LEAF := ⟨_, PySem.W.mg_of X G g_LEAF⟩, m_INNER := ⟨_, PySem.W.mg_of X G g_INNER⟩, m_MOST_ITEMS := ⟨_, PySem.W.mg_of X G g_MOST_ITEMS⟩, m_NUMBER_SIZE := ⟨_, PySem.W.mg_of X G g_NUMBER_SIZE⟩, m_FIELD_SIZE := ⟨_, PySem.W.mg_of X G g_FIELD_SIZE⟩, m_PAGES := ⟨_, PySem.W.mg_of X G g_PAGES⟩, m_FREE := ⟨_, PySem.W.mg_of X G g_FREE⟩, z_ValueError := PySem.W.mg_none_of X G z_ValueError, z_abs := PySem.W.mg_none_of X G z_abs, z_all := PySem.W.mg_none_of X G z_all, z_int := PySem.W.mg_none_of X G z_int, z_isinstance := PySem.W.mg_none_of X G z_isinstance, z_len := PySem.W.mg_none_of X G z_len, z_list := PySem.W.mg_none_of X G z_list, z_max := PySem.W.mg_none_of X G z_max, z_min := PySem.W.mg_none_of X G z_min, z_range := PySem.W.mg_none_of X G z_range, z_reversed := PySem.W.mg_none_of X G z_reversed, z_sorted := PySem.W.mg_none_of X G z_sorted, z_sum := PySem.W.mg_none_of X G z_sum, z_tuple := PySem.W.mg_none_of X G z_tuple, cl_Device := ⟨pg_Device, hd_Device, po_Device, sa_Device⟩, mk_Device := ⟨mk_Device, kc_Device⟩, mg_Device := PySem.W.mg_of X G aC_Device, n_Device_pages := n_Device_pages, n_Device_page_writes := n_Device_page_writes, n_Device_durable_log := n_Device_durable_log, n_Device_log_steps := n_Device_log_steps, n_Device_done := n_Device_done, n_Device_most := n_Device_most, cl_MetricTree := ⟨pg_MetricTree, hd_MetricTree, po_MetricTree, sa_MetricTree⟩, mk_MetricTree := ⟨mk_MetricTree, kc_MetricTree⟩, mg_MetricTree := PySem.W.mg_of X G aC_MetricTree, n_MetricTree_pager := n_MetricTree_pager, n_MetricTree_root := n_MetricTree_root, n_MetricTree_dimensions := n_MetricTree_dimensions, n_MetricTree_metric := n_MetricTree_metric, cl_Pager := ⟨pg_Pager, hd_Pager, po_Pager, sa_Pager⟩, mk_Pager := ⟨mk_Pager, kc_Pager⟩, mg_Pager := PySem.W.mg_of X G aC_Pager, n_Pager_device := n_Pager_device, n_Pager_committed := n_Pager_committed, n_Pager_dirty := n_Pager_dirty, ex_VaultError := ⟨PySem.W.mg_of X G aC_VaultError, xx_VaultError, xk_VaultError, xb_VaultError, xt_VaultError, xi_VaultError, xs_VaultError⟩, ex_PowerCut := ⟨PySem.W.mg_of X G aC_PowerCut, xx_PowerCut, xk_PowerCut, xb_PowerCut, xt_PowerCut, xi_PowerCut, xs_PowerCut⟩ }
  have e := hfa.symm.trans (PySem.W.mg_of X G a55)
  cases e
  refine ⟨PySem.W.fnOf "law" "law" (defArgs s_law) (defBody s_law) (defScope s_law) .none kV55 dc55 pm55 an55 (.ref cc) ct55, [(cc, 445)], (fun vs H Q _ => ∃ (a : Addr) (ns : List Int), vs = [.ref a] ∧ SqL (dropT K0 445) H a (ns.map V.int) ∧ ns.length ≤ 63 ∧ H 445 = some (.tbl #[]) ∧ ∀ H', Q (.bl true) H'), fun p hp => ?_, fun p hp => ?_, fun p hp => ?_, fun s v => .of_eq rfl, fun H a ns hl _ hT hS => ⟨a, ns, rfl, hS, hl, hT (cc, 445) (by simp), fun _ => rfl⟩, fun base _ _ TB => ?_⟩
  · rw [List.mem_singleton.mp hp]; exact he
  · rw [List.mem_singleton.mp hp]; exact dropT_none
  · rw [List.mem_singleton.mp hp]; exact PySem.W.codeHd_of_K X hh
  · exact FnOk.frz (ok_law (c := ⟨C_VaultError, C_PowerCut, C_Device, C_MetricTree, C_Pager, cc, 445⟩) ⟨⟨_, _, _, _, _, _, _, _, rfl, l55, c55⟩, k55⟩ T (TB (cc, 445) (by simp)))
theorem walk {l : PySem.W.OpenLaw} {q : Program} {loose : List Str} {XP : (Str → Option Value) → Heap → Prop} {YP : World → Heap → Prop} {d : DefRec} {K0 : Params → PySem.W.Frag} (hn : l.most = some 63) (hdf : d.params.defaults = [])
    (hY : ∀ (w : World) (h : Heap), YP w h → (K0 w.params).In h)
    (F : ∀ (w : World) (mg : Str → Option Value) (fa : Addr) (h : Heap), YP w h → (K0 w.params).In h → h.Ns mainGlobals mg → mg d.name = some (.ref fa) → LamX.LawAtS l w (dropT (K0 w.params) 445) CX0 179 63 "_law_script" mg fa h) :
    PySem.W.WalkO q loose XP YP l.row.toRowW d [] (fun f vs => PySem.call f vs) :=
  LamX.walk_ofTs (n := 63) (k := 179) (K := fun p => dropT (K0 p) 445) (CX := fun _ => CX0) (x := "_law_script") hn (by decide) hdf ⟨rfl, by decide, by decide⟩ (fun w h y => dropT_in (hY w h y)) (fun w mg fa h Y _ G hm => F w mg fa h Y (hY w h Y) G hm) (fun _ _ _ _ _ z => z)
end NV
open PySem PySem.W PyProof.Rows
set_option maxRecDepth 100000 in
set_option maxHeartbeats 0 in
theorem PySem.Challenge.cw_nearvault_k09_whole_nearest_items_holds : PySem.Challenge.rw_nearvault_k09_whole_nearest_items.Holds := by
  w_on; o_law; k_head; (case hw => w_witness2)
  k_fill
  refine NV.walk (l := PySem.Challenge.rw_nearvault_k09_whole_nearest_items) rfl rfl (fun w h Y => PySem.W.km_in_of Y) ?F
  case F =>
    intro w mg fa h Y KX G hmg
    refine' NV.all_mk KX G hmg (PySem.W.km_tabs_of Y 445 (by simp)) ?aC_VaultError_0 ?aC_PowerCut_0 ?aC_Device_0 ?aC_MetricTree_0 ?aC_Pager_0 ?a1_0 ?l1_0 ?c1_0 ?k1_0 ?a2_0 ?i2_0 ?l2_0 ?c2_0 ?k2_0 ?a3_0 ?i3_0 ?l3_0 ?c3_0 ?k3_0 ?a4_0 ?i4_0 ?l4_0 ?c4_0 ?k4_0 ?a5_0 ?i5_0 ?l5_0 ?c5_0 ?k5_0 ?a6_0 ?i6_0 ?l6_0 ?c6_0 ?k6_0 ?a7_0 ?i7_0 ?l7_0 ?c7_0 ?k7_0 ?a8_0 ?i8_0 ?l8_0 ?c8_0 ?k8_0 ?a9_0 ?i9_0 ?l9_0 ?c9_0 ?k9_0 ?a10_0 ?i10_0 ?l10_0 ?c10_0 ?k10_0 ?a11_0 ?i11_0 ?l11_0 ?c11_0 ?k11_0 ?a12_0 ?i12_0 ?l12_0 ?c12_0 ?k12_0 ?a13_0 ?i13_0 ?l13_0 ?c13_0 ?k13_0 ?a14_0 ?i14_0 ?l14_0 ?c14_0 ?k14_0 ?a15_0 ?i15_0 ?l15_0 ?c15_0 ?k15_0 ?a16_0 ?l16_0 ?c16_0 ?k16_0 ?a17_0 ?l17_0 ?c17_0 ?k17_0 ?a18_0 ?l18_0 ?c18_0 ?k18_0 ?a19_0 ?l19_0 ?c19_0 ?k19_0 ?a20_0 ?l20_0 ?c20_0 ?k20_0 ?a21_0 ?l21_0 ?c21_0 ?k21_0 ?a22_0 ?l22_0 ?c22_0 ?k22_0 ?a23_0 ?i23_0 ?l23_0 ?c23_0 ?k23_0 ?a24_0 ?i24_0 ?l24_0 ?c24_0 ?k24_0 ?a25_0 ?i25_0 ?l25_0 ?c25_0 ?k25_0 ?a26_0 ?i26_0 ?l26_0 ?c26_0 ?k26_0 ?a27_0 ?i27_0 ?l27_0 ?c27_0 ?k27_0 ?a28_0 ?i28_0 ?l28_0 ?c28_0 ?k28_0 ?a29_0 ?i29_0 ?l29_0 ?c29_0 ?k29_0 ?a30_0 ?i30_0 ?l30_0 ?c30_0 ?k30_0 ?a31_0 ?i31_0 ?l31_0 ?c31_0 ?k31_0 ?a32_0 ?i32_0 ?l32_0 ?c32_0 ?k32_0 ?a33_0 ?i33_0 ?l33_0 ?c33_0 ?k33_0 ?a34_0 ?i34_0 ?l34_0 ?c34_0 ?k34_0 ?a35_0 ?i35_0 ?l35_0 ?c35_0 ?k35_0 ?a36_0 ?i36_0 ?l36_0 ?c36_0 ?k36_0 ?a37_0 ?l37_0 ?c37_0 ?k37_0 ?a38_0 ?i38_0 ?l38_0 ?c38_0 ?k38_0 ?a39_0 ?i39_0 ?l39_0 ?c39_0 ?k39_0 ?a40_0 ?i40_0 ?l40_0 ?c40_0 ?k40_0 ?a41_0 ?i41_0 ?l41_0 ?c41_0 ?k41_0 ?a42_0 ?i42_0 ?l42_0 ?c42_0 ?k42_0 ?a43_0 ?i43_0 ?l43_0 ?c43_0 ?k43_0 ?a44_0 ?i44_0 ?l44_0 ?c44_0 ?k44_0 ?a45_0 ?i45_0 ?l45_0 ?c45_0 ?k45_0 ?a46_0 ?i46_0 ?l46_0 ?c46_0 ?k46_0 ?a47_0 ?i47_0 ?l47_0 ?c47_0 ?k47_0 ?a48_0 ?i48_0 ?l48_0 ?c48_0 ?k48_0 ?a49_0 ?l49_0 ?c49_0 ?k49_0 ?a50_0 ?l50_0 ?c50_0 ?k50_0 ?a51_0 ?l51_0 ?c51_0 ?k51_0 ?a52_0 ?l52_0 ?c52_0 ?k52_0 ?a53_0 ?l53_0 ?c53_0 ?k53_0 ?a54_0 ?l54_0 ?c54_0 ?k54_0 ?a55_0 ?l55_0 ?c55_0 ?k55_0 ?g_PAGE_SIZE_0 ?g_OFFSET_0 ?g_LEAF_0 ?g_INNER_0 ?g_MOST_ITEMS_0 ?g_NUMBER_SIZE_0 ?g_FIELD_SIZE_0 ?g_PAGES_0 ?g_FREE_0 ?z_ValueError_0 ?z_abs_0 ?z_all_0 ?z_int_0 ?z_isinstance_0 ?z_len_0 ?z_list_0 ?z_max_0 ?z_min_0 ?z_range_0 ?z_reversed_0 ?z_sorted_0 ?z_sum_0 ?z_tuple_0 ?pg_Device_0 ?hd_Device_0 ?po_Device_0 ?sa_Device_0 ?mk_Device_0 ?kc_Device_0 ?n_Device_pages_0 ?n_Device_page_writes_0 ?n_Device_durable_log_0 ?n_Device_log_steps_0 ?n_Device_done_0 ?n_Device_most_0 ?pg_MetricTree_0 ?hd_MetricTree_0 ?po_MetricTree_0 ?sa_MetricTree_0 ?mk_MetricTree_0 ?kc_MetricTree_0 ?n_MetricTree_pager_0 ?n_MetricTree_root_0 ?n_MetricTree_dimensions_0 ?n_MetricTree_metric_0 ?pg_Pager_0 ?hd_Pager_0 ?po_Pager_0 ?sa_Pager_0 ?mk_Pager_0 ?kc_Pager_0 ?n_Pager_device_0 ?n_Pager_committed_0 ?n_Pager_dirty_0 ?xx_VaultError_0 ?xk_VaultError_0 ?xb_VaultError_0 ?xt_VaultError_0 ?xi_VaultError_0 ?xs_VaultError_0 ?xx_PowerCut_0 ?xk_PowerCut_0 ?xb_PowerCut_0 ?xt_PowerCut_0 ?xi_PowerCut_0 ?xs_PowerCut_0 ?hv_0 ?aC_VaultError ?aC_PowerCut ?aC_Device ?aC_MetricTree ?aC_Pager ?a1 ?l1 ?c1 ?k1 ?a2 ?i2 ?l2 ?c2 ?k2 ?a3 ?i3 ?l3 ?c3 ?k3 ?a4 ?i4 ?l4 ?c4 ?k4 ?a5 ?i5 ?l5 ?c5 ?k5 ?a6 ?i6 ?l6 ?c6 ?k6 ?a7 ?i7 ?l7 ?c7 ?k7 ?a8 ?i8 ?l8 ?c8 ?k8 ?a9 ?i9 ?l9 ?c9 ?k9 ?a10 ?i10 ?l10 ?c10 ?k10 ?a11 ?i11 ?l11 ?c11 ?k11 ?a12 ?i12 ?l12 ?c12 ?k12 ?a13 ?i13 ?l13 ?c13 ?k13 ?a14 ?i14 ?l14 ?c14 ?k14 ?a15 ?i15 ?l15 ?c15 ?k15 ?a16 ?l16 ?c16 ?k16 ?a17 ?l17 ?c17 ?k17 ?a18 ?l18 ?c18 ?k18 ?a19 ?l19 ?c19 ?k19 ?a20 ?l20 ?c20 ?k20 ?a21 ?l21 ?c21 ?k21 ?a22 ?l22 ?c22 ?k22 ?a23 ?i23 ?l23 ?c23 ?k23 ?a24 ?i24 ?l24 ?c24 ?k24 ?a25 ?i25 ?l25 ?c25 ?k25 ?a26 ?i26 ?l26 ?c26 ?k26 ?a27 ?i27 ?l27 ?c27 ?k27 ?a28 ?i28 ?l28 ?c28 ?k28 ?a29 ?i29 ?l29 ?c29 ?k29 ?a30 ?i30 ?l30 ?c30 ?k30 ?a31 ?i31 ?l31 ?c31 ?k31 ?a32 ?i32 ?l32 ?c32 ?k32 ?a33 ?i33 ?l33 ?c33 ?k33 ?a34 ?i34 ?l34 ?c34 ?k34 ?a35 ?i35 ?l35 ?c35 ?k35 ?a36 ?i36 ?l36 ?c36 ?k36 ?a37 ?l37 ?c37 ?k37 ?a38 ?i38 ?l38 ?c38 ?k38 ?a39 ?i39 ?l39 ?c39 ?k39 ?a40 ?i40 ?l40 ?c40 ?k40 ?a41 ?i41 ?l41 ?c41 ?k41 ?a42 ?i42 ?l42 ?c42 ?k42 ?a43 ?i43 ?l43 ?c43 ?k43 ?a44 ?i44 ?l44 ?c44 ?k44 ?a45 ?i45 ?l45 ?c45 ?k45 ?a46 ?i46 ?l46 ?c46 ?k46 ?a47 ?i47 ?l47 ?c47 ?k47 ?a48 ?i48 ?l48 ?c48 ?k48 ?a49 ?l49 ?c49 ?k49 ?a50 ?l50 ?c50 ?k50 ?a51 ?l51 ?c51 ?k51 ?a52 ?l52 ?c52 ?k52 ?a53 ?l53 ?c53 ?k53 ?a54 ?l54 ?c54 ?k54 ?a55 ?l55 ?c55 ?k55 ?g_PAGE_SIZE ?g_OFFSET ?g_LEAF ?g_INNER ?g_MOST_ITEMS ?g_NUMBER_SIZE ?g_FIELD_SIZE ?g_PAGES ?g_FREE ?z_ValueError ?z_abs ?z_all ?z_int ?z_isinstance ?z_len ?z_list ?z_max ?z_min ?z_range ?z_reversed ?z_sorted ?z_sum ?z_tuple ?pg_Device ?hd_Device ?po_Device ?sa_Device ?mk_Device ?kc_Device ?n_Device_pages ?n_Device_page_writes ?n_Device_durable_log ?n_Device_log_steps ?n_Device_done ?n_Device_most ?pg_MetricTree ?hd_MetricTree ?po_MetricTree ?sa_MetricTree ?mk_MetricTree ?kc_MetricTree ?n_MetricTree_pager ?n_MetricTree_root ?n_MetricTree_dimensions ?n_MetricTree_metric ?pg_Pager ?hd_Pager ?po_Pager ?sa_Pager ?mk_Pager ?kc_Pager ?n_Pager_device ?n_Pager_committed ?n_Pager_dirty ?xx_VaultError ?xk_VaultError ?xb_VaultError ?xt_VaultError ?xi_VaultError ?xs_VaultError ?xx_PowerCut ?xk_PowerCut ?xb_PowerCut ?xt_PowerCut ?xi_PowerCut ?xs_PowerCut ?hh
    (case aC_VaultError_0 => k_is)
    (case aC_PowerCut_0 => k_is)
    (case aC_Device_0 => k_is)
    (case aC_MetricTree_0 => k_is)
    (case aC_Pager_0 => k_is)
    (case a1_0 => k_is)
    (case l1_0 => k_is)
    (case c1_0 => k_is)
    (case k1_0 => k_is)
    (case a2_0 => k_is)
    (case i2_0 => k_is)
    (case l2_0 => k_is)
    (case c2_0 => k_is)
    (case k2_0 => k_is)
    (case a3_0 => k_is)
    (case i3_0 => k_is)
    (case l3_0 => k_is)
    (case c3_0 => k_is)
    (case k3_0 => k_is)
    (case a4_0 => k_is)
    (case i4_0 => k_is)
    (case l4_0 => k_is)
    (case c4_0 => k_is)
    (case k4_0 => k_is)
    (case a5_0 => k_is)
    (case i5_0 => k_is)
    (case l5_0 => k_is)
    (case c5_0 => k_is)
    (case k5_0 => k_is)
    (case a6_0 => k_is)
    (case i6_0 => k_is)
    (case l6_0 => k_is)
    (case c6_0 => k_is)
    (case k6_0 => k_is)
    (case a7_0 => k_is)
    (case i7_0 => k_is)
    (case l7_0 => k_is)
    (case c7_0 => k_is)
    (case k7_0 => k_is)
    (case a8_0 => k_is)
    (case i8_0 => k_is)
    (case l8_0 => k_is)
    (case c8_0 => k_is)
    (case k8_0 => k_is)
    (case a9_0 => k_is)
    (case i9_0 => k_is)
    (case l9_0 => k_is)
    (case c9_0 => k_is)
    (case k9_0 => k_is)
    (case a10_0 => k_is)
    (case i10_0 => k_is)
    (case l10_0 => k_is)
    (case c10_0 => k_is)
    (case k10_0 => k_is)
    (case a11_0 => k_is)
    (case i11_0 => k_is)
    (case l11_0 => k_is)
    (case c11_0 => k_is)
    (case k11_0 => k_is)
    (case a12_0 => k_is)
    (case i12_0 => k_is)
    (case l12_0 => k_is)
    (case c12_0 => k_is)
    (case k12_0 => k_is)
    (case a13_0 => k_is)
    (case i13_0 => k_is)
    (case l13_0 => k_is)
    (case c13_0 => k_is)
    (case k13_0 => k_is)
    (case a14_0 => k_is)
    (case i14_0 => k_is)
    (case l14_0 => k_is)
    (case c14_0 => k_is)
    (case k14_0 => k_is)
    (case a15_0 => k_is)
    (case i15_0 => k_is)
    (case l15_0 => k_is)
    (case c15_0 => k_is)
    (case k15_0 => k_is)
    (case a16_0 => k_is)
    (case l16_0 => k_is)
    (case c16_0 => k_is)
    (case k16_0 => k_is)
    (case a17_0 => k_is)
    (case l17_0 => k_is)
    (case c17_0 => k_is)
    (case k17_0 => k_is)
    (case a18_0 => k_is)
    (case l18_0 => k_is)
    (case c18_0 => k_is)
    (case k18_0 => k_is)
    (case a19_0 => k_is)
    (case l19_0 => k_is)
    (case c19_0 => k_is)
    (case k19_0 => k_is)
    (case a20_0 => k_is)
    (case l20_0 => k_is)
    (case c20_0 => k_is)
    (case k20_0 => k_is)
    (case a21_0 => k_is)
    (case l21_0 => k_is)
    (case c21_0 => k_is)
    (case k21_0 => k_is)
    (case a22_0 => k_is)
    (case l22_0 => k_is)
    (case c22_0 => k_is)
    (case k22_0 => k_is)
    (case a23_0 => k_is)
    (case i23_0 => k_is)
    (case l23_0 => k_is)
    (case c23_0 => k_is)
    (case k23_0 => k_is)
    (case a24_0 => k_is)
    (case i24_0 => k_is)
    (case l24_0 => k_is)
    (case c24_0 => k_is)
    (case k24_0 => k_is)
    (case a25_0 => k_is)
    (case i25_0 => k_is)
    (case l25_0 => k_is)
    (case c25_0 => k_is)
    (case k25_0 => k_is)
    (case a26_0 => k_is)
    (case i26_0 => k_is)
    (case l26_0 => k_is)
    (case c26_0 => k_is)
    (case k26_0 => k_is)
    (case a27_0 => k_is)
    (case i27_0 => k_is)
    (case l27_0 => k_is)
    (case c27_0 => k_is)
    (case k27_0 => k_is)
    (case a28_0 => k_is)
    (case i28_0 => k_is)
    (case l28_0 => k_is)
    (case c28_0 => k_is)
    (case k28_0 => k_is)
    (case a29_0 => k_is)
    (case i29_0 => k_is)
    (case l29_0 => k_is)
    (case c29_0 => k_is)
    (case k29_0 => k_is)
    (case a30_0 => k_is)
    (case i30_0 => k_is)
    (case l30_0 => k_is)
    (case c30_0 => k_is)
    (case k30_0 => k_is)
    (case a31_0 => k_is)
    (case i31_0 => k_is)
    (case l31_0 => k_is)
    (case c31_0 => k_is)
    (case k31_0 => k_is)
    (case a32_0 => k_is)
    (case i32_0 => k_is)
    (case l32_0 => k_is)
    (case c32_0 => k_is)
    (case k32_0 => k_is)
    (case a33_0 => k_is)
    (case i33_0 => k_is)
    (case l33_0 => k_is)
    (case c33_0 => k_is)
    (case k33_0 => k_is)
    (case a34_0 => k_is)
    (case i34_0 => k_is)
    (case l34_0 => k_is)
    (case c34_0 => k_is)
    (case k34_0 => k_is)
    (case a35_0 => k_is)
    (case i35_0 => k_is)
    (case l35_0 => k_is)
    (case c35_0 => k_is)
    (case k35_0 => k_is)
    (case a36_0 => k_is)
    (case i36_0 => k_is)
    (case l36_0 => k_is)
    (case c36_0 => k_is)
    (case k36_0 => k_is)
    (case a37_0 => k_is)
    (case l37_0 => k_is)
    (case c37_0 => k_is)
    (case k37_0 => k_is)
    (case a38_0 => k_is)
    (case i38_0 => k_is)
    (case l38_0 => k_is)
    (case c38_0 => k_is)
    (case k38_0 => k_is)
    (case a39_0 => k_is)
    (case i39_0 => k_is)
    (case l39_0 => k_is)
    (case c39_0 => k_is)
    (case k39_0 => k_is)
    (case a40_0 => k_is)
    (case i40_0 => k_is)
    (case l40_0 => k_is)
    (case c40_0 => k_is)
    (case k40_0 => k_is)
    (case a41_0 => k_is)
    (case i41_0 => k_is)
    (case l41_0 => k_is)
    (case c41_0 => k_is)
    (case k41_0 => k_is)
    (case a42_0 => k_is)
    (case i42_0 => k_is)
    (case l42_0 => k_is)
    (case c42_0 => k_is)
    (case k42_0 => k_is)
    (case a43_0 => k_is)
    (case i43_0 => k_is)
    (case l43_0 => k_is)
    (case c43_0 => k_is)
    (case k43_0 => k_is)
    (case a44_0 => k_is)
    (case i44_0 => k_is)
    (case l44_0 => k_is)
    (case c44_0 => k_is)
    (case k44_0 => k_is)
    (case a45_0 => k_is)
    (case i45_0 => k_is)
    (case l45_0 => k_is)
    (case c45_0 => k_is)
    (case k45_0 => k_is)
    (case a46_0 => k_is)
    (case i46_0 => k_is)
    (case l46_0 => k_is)
    (case c46_0 => k_is)
    (case k46_0 => k_is)
    (case a47_0 => k_is)
    (case i47_0 => k_is)
    (case l47_0 => k_is)
    (case c47_0 => k_is)
    (case k47_0 => k_is)
    (case a48_0 => k_is)
    (case i48_0 => k_is)
    (case l48_0 => k_is)
    (case c48_0 => k_is)
    (case k48_0 => k_is)
    (case a49_0 => k_is)
    (case l49_0 => k_is)
    (case c49_0 => k_is)
    (case k49_0 => k_is)
    (case a50_0 => k_is)
    (case l50_0 => k_is)
    (case c50_0 => k_is)
    (case k50_0 => k_is)
    (case a51_0 => k_is)
    (case l51_0 => k_is)
    (case c51_0 => k_is)
    (case k51_0 => k_is)
    (case a52_0 => k_is)
    (case l52_0 => k_is)
    (case c52_0 => k_is)
    (case k52_0 => k_is)
    (case a53_0 => k_is)
    (case l53_0 => k_is)
    (case c53_0 => k_is)
    (case k53_0 => k_is)
    (case a54_0 => k_is)
    (case l54_0 => k_is)
    (case c54_0 => k_is)
    (case k54_0 => k_is)
    (case a55_0 => k_is)
    (case l55_0 => k_is)
    (case c55_0 => k_is)
    (case k55_0 => k_is)
    (case g_PAGE_SIZE_0 => k_is)
    (case g_OFFSET_0 => k_is)
    (case g_LEAF_0 => k_is)
    (case g_INNER_0 => k_is)
    (case g_MOST_ITEMS_0 => k_is)
    (case g_NUMBER_SIZE_0 => k_is)
    (case g_FIELD_SIZE_0 => k_is)
    (case g_PAGES_0 => k_is)
    (case g_FREE_0 => k_is)
    (case z_ValueError_0 => k_is)
    (case z_abs_0 => k_is)
    (case z_all_0 => k_is)
    (case z_int_0 => k_is)
    (case z_isinstance_0 => k_is)
    (case z_len_0 => k_is)
    (case z_list_0 => k_is)
    (case z_max_0 => k_is)
    (case z_min_0 => k_is)
    (case z_range_0 => k_is)
    (case z_reversed_0 => k_is)
    (case z_sorted_0 => k_is)
    (case z_sum_0 => k_is)
    (case z_tuple_0 => k_is)
    (case pg_Device_0 => k_is)
    (case hd_Device_0 => k_is)
    (case po_Device_0 => k_is)
    (case sa_Device_0 => k_is)
    (case mk_Device_0 => k_is)
    (case kc_Device_0 => k_is)
    (case n_Device_pages_0 => k_is)
    (case n_Device_page_writes_0 => k_is)
    (case n_Device_durable_log_0 => k_is)
    (case n_Device_log_steps_0 => k_is)
    (case n_Device_done_0 => k_is)
    (case n_Device_most_0 => k_is)
    (case pg_MetricTree_0 => k_is)
    (case hd_MetricTree_0 => k_is)
    (case po_MetricTree_0 => k_is)
    (case sa_MetricTree_0 => k_is)
    (case mk_MetricTree_0 => k_is)
    (case kc_MetricTree_0 => k_is)
    (case n_MetricTree_pager_0 => k_is)
    (case n_MetricTree_root_0 => k_is)
    (case n_MetricTree_dimensions_0 => k_is)
    (case n_MetricTree_metric_0 => k_is)
    (case pg_Pager_0 => k_is)
    (case hd_Pager_0 => k_is)
    (case po_Pager_0 => k_is)
    (case sa_Pager_0 => k_is)
    (case mk_Pager_0 => k_is)
    (case kc_Pager_0 => k_is)
    (case n_Pager_device_0 => k_is)
    (case n_Pager_committed_0 => k_is)
    (case n_Pager_dirty_0 => k_is)
    (case xx_VaultError_0 => k_exc)
    (case xk_VaultError_0 => k_is)
    (case xb_VaultError_0 => k_is)
    (case xt_VaultError_0 => k_is)
    (case xi_VaultError_0 => k_is)
    (case xs_VaultError_0 => (first | rfl | k_is))
    (case xx_PowerCut_0 => k_exc)
    (case xk_PowerCut_0 => k_is)
    (case xb_PowerCut_0 => k_is)
    (case xt_PowerCut_0 => k_is)
    (case xi_PowerCut_0 => k_is)
    (case xs_PowerCut_0 => (first | rfl | k_is))
    (case hv_0 => k_is)
    (case aC_VaultError => kernel_rfl)
    (case aC_PowerCut => kernel_rfl)
    (case aC_Device => kernel_rfl)
    (case aC_MetricTree => kernel_rfl)
    (case aC_Pager => kernel_rfl)
    (case a1 => kernel_rfl)
    (case l1 => kernel_rfl)
    (case c1 => kernel_rfl)
    (case k1 => kernel_rfl)
    (case a2 => kernel_rfl)
    (case i2 => kernel_rfl)
    (case l2 => kernel_rfl)
    (case c2 => kernel_rfl)
    (case k2 => kernel_rfl)
    (case a3 => kernel_rfl)
    (case i3 => kernel_rfl)
    (case l3 => kernel_rfl)
    (case c3 => kernel_rfl)
    (case k3 => kernel_rfl)
    (case a4 => kernel_rfl)
    (case i4 => kernel_rfl)
    (case l4 => kernel_rfl)
    (case c4 => kernel_rfl)
    (case k4 => kernel_rfl)
    (case a5 => kernel_rfl)
    (case i5 => kernel_rfl)
    (case l5 => kernel_rfl)
    (case c5 => kernel_rfl)
    (case k5 => kernel_rfl)
    (case a6 => kernel_rfl)
    (case i6 => kernel_rfl)
    (case l6 => kernel_rfl)
    (case c6 => kernel_rfl)
    (case k6 => kernel_rfl)
    (case a7 => kernel_rfl)
    (case i7 => kernel_rfl)
    (case l7 => kernel_rfl)
    (case c7 => kernel_rfl)
    (case k7 => kernel_rfl)
    (case a8 => kernel_rfl)
    (case i8 => kernel_rfl)
    (case l8 => kernel_rfl)
    (case c8 => kernel_rfl)
    (case k8 => kernel_rfl)
    (case a9 => kernel_rfl)
    (case i9 => kernel_rfl)
    (case l9 => kernel_rfl)
    (case c9 => kernel_rfl)
    (case k9 => kernel_rfl)
    (case a10 => kernel_rfl)
    (case i10 => kernel_rfl)
    (case l10 => kernel_rfl)
    (case c10 => kernel_rfl)
    (case k10 => kernel_rfl)
    (case a11 => kernel_rfl)
    (case i11 => kernel_rfl)
    (case l11 => kernel_rfl)
    (case c11 => kernel_rfl)
    (case k11 => kernel_rfl)
    (case a12 => kernel_rfl)
    (case i12 => kernel_rfl)
    (case l12 => kernel_rfl)
    (case c12 => kernel_rfl)
    (case k12 => kernel_rfl)
    (case a13 => kernel_rfl)
    (case i13 => kernel_rfl)
    (case l13 => kernel_rfl)
    (case c13 => kernel_rfl)
    (case k13 => kernel_rfl)
    (case a14 => kernel_rfl)
    (case i14 => kernel_rfl)
    (case l14 => kernel_rfl)
    (case c14 => kernel_rfl)
    (case k14 => kernel_rfl)
    (case a15 => kernel_rfl)
    (case i15 => kernel_rfl)
    (case l15 => kernel_rfl)
    (case c15 => kernel_rfl)
    (case k15 => kernel_rfl)
    (case a16 => kernel_rfl)
    (case l16 => kernel_rfl)
    (case c16 => kernel_rfl)
    (case k16 => kernel_rfl)
    (case a17 => kernel_rfl)
    (case l17 => kernel_rfl)
    (case c17 => kernel_rfl)
    (case k17 => kernel_rfl)
    (case a18 => kernel_rfl)
    (case l18 => kernel_rfl)
    (case c18 => kernel_rfl)
    (case k18 => kernel_rfl)
    (case a19 => kernel_rfl)
    (case l19 => kernel_rfl)
    (case c19 => kernel_rfl)
    (case k19 => kernel_rfl)
    (case a20 => kernel_rfl)
    (case l20 => kernel_rfl)
    (case c20 => kernel_rfl)
    (case k20 => kernel_rfl)
    (case a21 => kernel_rfl)
    (case l21 => kernel_rfl)
    (case c21 => kernel_rfl)
    (case k21 => kernel_rfl)
    (case a22 => kernel_rfl)
    (case l22 => kernel_rfl)
    (case c22 => kernel_rfl)
    (case k22 => kernel_rfl)
    (case a23 => kernel_rfl)
    (case i23 => kernel_rfl)
    (case l23 => kernel_rfl)
    (case c23 => kernel_rfl)
    (case k23 => kernel_rfl)
    (case a24 => kernel_rfl)
    (case i24 => kernel_rfl)
    (case l24 => kernel_rfl)
    (case c24 => kernel_rfl)
    (case k24 => kernel_rfl)
    (case a25 => kernel_rfl)
    (case i25 => kernel_rfl)
    (case l25 => kernel_rfl)
    (case c25 => kernel_rfl)
    (case k25 => kernel_rfl)
    (case a26 => kernel_rfl)
    (case i26 => kernel_rfl)
    (case l26 => kernel_rfl)
    (case c26 => kernel_rfl)
    (case k26 => kernel_rfl)
    (case a27 => kernel_rfl)
    (case i27 => kernel_rfl)
    (case l27 => kernel_rfl)
    (case c27 => kernel_rfl)
    (case k27 => kernel_rfl)
    (case a28 => kernel_rfl)
    (case i28 => kernel_rfl)
    (case l28 => kernel_rfl)
    (case c28 => kernel_rfl)
    (case k28 => kernel_rfl)
    (case a29 => kernel_rfl)
    (case i29 => kernel_rfl)
    (case l29 => kernel_rfl)
    (case c29 => kernel_rfl)
    (case k29 => kernel_rfl)
    (case a30 => kernel_rfl)
    (case i30 => kernel_rfl)
    (case l30 => kernel_rfl)
    (case c30 => kernel_rfl)
    (case k30 => kernel_rfl)
    (case a31 => kernel_rfl)
    (case i31 => kernel_rfl)
    (case l31 => kernel_rfl)
    (case c31 => kernel_rfl)
    (case k31 => kernel_rfl)
    (case a32 => kernel_rfl)
    (case i32 => kernel_rfl)
    (case l32 => kernel_rfl)
    (case c32 => kernel_rfl)
    (case k32 => kernel_rfl)
    (case a33 => kernel_rfl)
    (case i33 => kernel_rfl)
    (case l33 => kernel_rfl)
    (case c33 => kernel_rfl)
    (case k33 => kernel_rfl)
    (case a34 => kernel_rfl)
    (case i34 => kernel_rfl)
    (case l34 => kernel_rfl)
    (case c34 => kernel_rfl)
    (case k34 => kernel_rfl)
    (case a35 => kernel_rfl)
    (case i35 => kernel_rfl)
    (case l35 => kernel_rfl)
    (case c35 => kernel_rfl)
    (case k35 => kernel_rfl)
    (case a36 => kernel_rfl)
    (case i36 => kernel_rfl)
    (case l36 => kernel_rfl)
    (case c36 => kernel_rfl)
    (case k36 => kernel_rfl)
    (case a37 => kernel_rfl)
    (case l37 => kernel_rfl)
    (case c37 => kernel_rfl)
    (case k37 => kernel_rfl)
    (case a38 => kernel_rfl)
    (case i38 => kernel_rfl)
    (case l38 => kernel_rfl)
    (case c38 => kernel_rfl)
    (case k38 => kernel_rfl)
    (case a39 => kernel_rfl)
    (case i39 => kernel_rfl)
    (case l39 => kernel_rfl)
    (case c39 => kernel_rfl)
    (case k39 => kernel_rfl)
    (case a40 => kernel_rfl)
    (case i40 => kernel_rfl)
    (case l40 => kernel_rfl)
    (case c40 => kernel_rfl)
    (case k40 => kernel_rfl)
    (case a41 => kernel_rfl)
    (case i41 => kernel_rfl)
    (case l41 => kernel_rfl)
    (case c41 => kernel_rfl)
    (case k41 => kernel_rfl)
    (case a42 => kernel_rfl)
    (case i42 => kernel_rfl)
    (case l42 => kernel_rfl)
    (case c42 => kernel_rfl)
    (case k42 => kernel_rfl)
    (case a43 => kernel_rfl)
    (case i43 => kernel_rfl)
    (case l43 => kernel_rfl)
    (case c43 => kernel_rfl)
    (case k43 => kernel_rfl)
    (case a44 => kernel_rfl)
    (case i44 => kernel_rfl)
    (case l44 => kernel_rfl)
    (case c44 => kernel_rfl)
    (case k44 => kernel_rfl)
    (case a45 => kernel_rfl)
    (case i45 => kernel_rfl)
    (case l45 => kernel_rfl)
    (case c45 => kernel_rfl)
    (case k45 => kernel_rfl)
    (case a46 => kernel_rfl)
    (case i46 => kernel_rfl)
    (case l46 => kernel_rfl)
    (case c46 => kernel_rfl)
    (case k46 => kernel_rfl)
    (case a47 => kernel_rfl)
    (case i47 => kernel_rfl)
    (case l47 => kernel_rfl)
    (case c47 => kernel_rfl)
    (case k47 => kernel_rfl)
    (case a48 => kernel_rfl)
    (case i48 => kernel_rfl)
    (case l48 => kernel_rfl)
    (case c48 => kernel_rfl)
    (case k48 => kernel_rfl)
    (case a49 => kernel_rfl)
    (case l49 => kernel_rfl)
    (case c49 => kernel_rfl)
    (case k49 => kernel_rfl)
    (case a50 => kernel_rfl)
    (case l50 => kernel_rfl)
    (case c50 => kernel_rfl)
    (case k50 => kernel_rfl)
    (case a51 => kernel_rfl)
    (case l51 => kernel_rfl)
    (case c51 => kernel_rfl)
    (case k51 => kernel_rfl)
    (case a52 => kernel_rfl)
    (case l52 => kernel_rfl)
    (case c52 => kernel_rfl)
    (case k52 => kernel_rfl)
    (case a53 => kernel_rfl)
    (case l53 => kernel_rfl)
    (case c53 => kernel_rfl)
    (case k53 => kernel_rfl)
    (case a54 => kernel_rfl)
    (case l54 => kernel_rfl)
    (case c54 => kernel_rfl)
    (case k54 => kernel_rfl)
    (case a55 => kernel_rfl)
    (case l55 => kernel_rfl)
    (case c55 => kernel_rfl)
    (case k55 => kernel_rfl)
    (case g_PAGE_SIZE => kernel_rfl)
    (case g_OFFSET => kernel_rfl)
    (case g_LEAF => kernel_rfl)
    (case g_INNER => kernel_rfl)
    (case g_MOST_ITEMS => kernel_rfl)
    (case g_NUMBER_SIZE => kernel_rfl)
    (case g_FIELD_SIZE => kernel_rfl)
    (case g_PAGES => kernel_rfl)
    (case g_FREE => kernel_rfl)
    (case z_ValueError => kernel_rfl)
    (case z_abs => kernel_rfl)
    (case z_all => kernel_rfl)
    (case z_int => kernel_rfl)
    (case z_isinstance => kernel_rfl)
    (case z_len => kernel_rfl)
    (case z_list => kernel_rfl)
    (case z_max => kernel_rfl)
    (case z_min => kernel_rfl)
    (case z_range => kernel_rfl)
    (case z_reversed => kernel_rfl)
    (case z_sorted => kernel_rfl)
    (case z_sum => kernel_rfl)
    (case z_tuple => kernel_rfl)
    (case pg_Device => kernel_rfl)
    (case hd_Device => kernel_rfl)
    (case po_Device => kernel_rfl)
    (case sa_Device => kernel_rfl)
    (case mk_Device => kernel_rfl)
    (case kc_Device => kernel_rfl)
    (case n_Device_pages => kernel_rfl)
    (case n_Device_page_writes => kernel_rfl)
    (case n_Device_durable_log => kernel_rfl)
    (case n_Device_log_steps => kernel_rfl)
    (case n_Device_done => kernel_rfl)
    (case n_Device_most => kernel_rfl)
    (case pg_MetricTree => kernel_rfl)
    (case hd_MetricTree => kernel_rfl)
    (case po_MetricTree => kernel_rfl)
    (case sa_MetricTree => kernel_rfl)
    (case mk_MetricTree => kernel_rfl)
    (case kc_MetricTree => kernel_rfl)
    (case n_MetricTree_pager => kernel_rfl)
    (case n_MetricTree_root => kernel_rfl)
    (case n_MetricTree_dimensions => kernel_rfl)
    (case n_MetricTree_metric => kernel_rfl)
    (case pg_Pager => kernel_rfl)
    (case hd_Pager => kernel_rfl)
    (case po_Pager => kernel_rfl)
    (case sa_Pager => kernel_rfl)
    (case mk_Pager => kernel_rfl)
    (case kc_Pager => kernel_rfl)
    (case n_Pager_device => kernel_rfl)
    (case n_Pager_committed => kernel_rfl)
    (case n_Pager_dirty => kernel_rfl)
    (case xx_VaultError => kernel_rfl)
    (case xk_VaultError => kernel_rfl)
    (case xb_VaultError => kernel_rfl)
    (case xt_VaultError => kernel_rfl)
    (case xi_VaultError => kernel_rfl)
    (case xs_VaultError => kernel_rfl)
    (case xx_PowerCut => kernel_rfl)
    (case xk_PowerCut => kernel_rfl)
    (case xb_PowerCut => kernel_rfl)
    (case xt_PowerCut => kernel_rfl)
    (case xi_PowerCut => kernel_rfl)
    (case xs_PowerCut => kernel_rfl)
    (case hh => kernel_rfl)
